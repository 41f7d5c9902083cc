/- Texts under the proof of FnShownChain: helper words, the functions' contracts and the plain laws. No condition. -/
import Derived.Test.YtmiholmfbjalfaaQFnShownChaina
import Derived.Test.YtmiholmfbjalfaaQFnShownChainc
import Derived.Test.YtmiholmfbjalfaaQFnShownChaind
import Derived.Test.YtmiholmfbjalfaaQFnShownChaine
namespace Go.Proofs.Ytmiholmfbjalfaa.P
open Go.RowKit Go.Proofs.YtmiholmfbjalfaaW.PrintWords Go.Proofs.YtmiholmfbjalfaaW.PrintLast Go.Proofs.YtmiholmfbjalfaaW.PrintMore
attribute [local go_sem] max2_int min2_int max_two min_two max_three min_three max_four min_four
set_option linter.unusedVariables false
set_option linter.unusedSimpArgs false
mutual
def laws_FnShownChain.j0 : Nat → Int → List Int → Bool → List (S87) → List (S43) → Option (Bool)
 | 0,_,_,_,_,_=>none
 | k + 1,x5,x6,x33,x9000,x10000=>if x33 = true then ((spec_ShownChain.f k x9000 x10000 x5).bind fun t17=>((laws_equalInts.f k x6 t17).bind fun t20=>(some t20))) else (laws_FnShownChain.l0 k x5 x6 1 x9000 x10000)
def laws_FnShownChain.l0 : Nat → Int → List Int → Int → List (S87) → List (S43) → Option (Bool)
 | 0,_,_,_,_,_=>none
 | k + 1,x5,x6,x7,x9000,x10000=>if x7 < (x6.length : Int) then (if 0 ≤ (wrap64 (x7 - 1)) then (if (wrap64 (x7 - 1)) < (x6.length : Int) then ((impl_ShownNext.f x9000 x10000 (rd x6 (wrap64 (x7 - 1)))).bind fun t26=>(if 0 ≤ x7 then (if t26 = (rd x6 x7) then (if x7 ≤ (x6.length : Int) then ((laws_isIn.f k (x6.take (x7 : Int).toNat) (rd x6 x7)).bind fun t33=>(if t33 = true then (some false) else (laws_FnShownChain.l0 k x5 x6 (wrap64 (x7 + 1)) x9000 x10000))) else (none)) else (some false)) else (none))) else (none)) else (none)) else (if 0 ≤ (wrap64 ((x6.length : Int) - 1)) then (if (wrap64 ((x6.length : Int) - 1)) < (x6.length : Int) then ((impl_ShownNext.f x9000 x10000 (rd x6 (wrap64 ((x6.length : Int) - 1)))).bind fun t22=>(if 0 < (x6.length : Int) then (if (rd x6 0) = x5 then (if t22 = (-1) then (some true) else ((laws_isIn.f k x6 t22).bind fun t24=>(some t24))) else (some false)) else (none))) else (none)) else (none))
end
def laws_FnShownChain.f (k : Nat) (l0 : List Int) : Option (Bool):=if (l0.length : Int) > 1048576 then (some true) else ((spec_DrawShownChain.f k l0).bind fun bt1=>((impl_ShownChain.f bt1.1 bt1.2.1 bt1.2.2).bind fun t10=>((spec_ShownChain.f k bt1.1 bt1.2.1 bt1.2.2).bind fun t13=>((laws_equalInts.f k t10 t13).bind fun t16=>(if t16 = true then (laws_FnShownChain.j0 k bt1.2.2 t10 ((t10.length : Int) == 0) bt1.1 bt1.2.1) else (laws_FnShownChain.j0 k bt1.2.2 t10 true bt1.1 bt1.2.1))))))
theorem laws_FnShownChain.mono_l : ∀ k,(∀ y0 y1 y2 y3 y4,LeO (laws_FnShownChain.j0 k y0 y1 y2 y3 y4) (laws_FnShownChain.j0 (k + 1) y0 y1 y2 y3 y4)) ∧ (∀ y0 y1 y2 y3 y4,LeO (laws_FnShownChain.l0 k y0 y1 y2 y3 y4) (laws_FnShownChain.l0 (k + 1) y0 y1 y2 y3 y4))
 | 0=>⟨fun _ _ _ _ _ r h=>by simp [laws_FnShownChain.j0] at h,fun _ _ _ _ _ r h=>by simp [laws_FnShownChain.l0] at h⟩
 | k + 1=>by
  obtain ⟨ih0,ih1⟩:=laws_FnShownChain.mono_l k
  refine ⟨?_,?_⟩
  ·intro y0 y1 y2 y3 y4
   unfold laws_FnShownChain.j0
   repeat' first
   | (with_reducible exact ih0 _ _ _ _ _)
   | (with_reducible exact ih1 _ _ _ _ _)
   | (with_reducible exact laws_equalInts.mono _ _ _)
   | (with_reducible exact laws_isIn.mono _ _ _)
   | (with_reducible exact spec_DrawShownChain.mono _ _)
   | (with_reducible exact spec_ShownChain.mono _ _ _ _)
   | (with_reducible exact LeO.refl _)
   | (with_reducible exact LeO.none _)
   | (with_reducible refine LeO.ite ?_ ?_)
   | (with_reducible refine LeO.bind ?_ (fun _=>?_))
   | exact ih0 _ _ _ _ _
   | exact ih1 _ _ _ _ _
   | exact laws_equalInts.mono _ _ _
   | exact laws_isIn.mono _ _ _
   | exact spec_DrawShownChain.mono _ _
   | exact spec_ShownChain.mono _ _ _ _
   | exact LeO.none _
   | refine LeO.ite ?_ ?_
   | refine LeO.bind ?_ (fun _=>?_)
  ·intro y0 y1 y2 y3 y4
   unfold laws_FnShownChain.l0
   repeat' first
   | (with_reducible exact ih0 _ _ _ _ _)
   | (with_reducible exact ih1 _ _ _ _ _)
   | (with_reducible exact laws_equalInts.mono _ _ _)
   | (with_reducible exact laws_isIn.mono _ _ _)
   | (with_reducible exact spec_DrawShownChain.mono _ _)
   | (with_reducible exact spec_ShownChain.mono _ _ _ _)
   | (with_reducible exact LeO.refl _)
   | (with_reducible exact LeO.none _)
   | (with_reducible refine LeO.ite ?_ ?_)
   | (with_reducible refine LeO.bind ?_ (fun _=>?_))
   | exact ih0 _ _ _ _ _
   | exact ih1 _ _ _ _ _
   | exact laws_equalInts.mono _ _ _
   | exact laws_isIn.mono _ _ _
   | exact spec_DrawShownChain.mono _ _
   | exact spec_ShownChain.mono _ _ _ _
   | exact LeO.none _
   | refine LeO.ite ?_ ?_
   | refine LeO.bind ?_ (fun _=>?_)
theorem laws_FnShownChain.mono : ∀ a0 k,LeO (laws_FnShownChain.f k a0) (laws_FnShownChain.f (k + 1) a0):=by
 intro a0 k
 obtain ⟨ih0,ih1⟩:=laws_FnShownChain.mono_l k
 unfold laws_FnShownChain.f
 repeat' first
   | (with_reducible exact ih0 _ _ _ _ _)
   | (with_reducible exact ih1 _ _ _ _ _)
   | (with_reducible exact laws_equalInts.mono _ _ _)
   | (with_reducible exact laws_isIn.mono _ _ _)
   | (with_reducible exact spec_DrawShownChain.mono _ _)
   | (with_reducible exact spec_ShownChain.mono _ _ _ _)
   | (with_reducible exact LeO.refl _)
   | (with_reducible exact LeO.none _)
   | (with_reducible refine LeO.ite ?_ ?_)
   | (with_reducible refine LeO.bind ?_ (fun _=>?_))
   | exact ih0 _ _ _ _ _
   | exact ih1 _ _ _ _ _
   | exact laws_equalInts.mono _ _ _
   | exact laws_isIn.mono _ _ _
   | exact spec_DrawShownChain.mono _ _
   | exact spec_ShownChain.mono _ _ _ _
   | exact LeO.none _
   | refine LeO.ite ?_ ?_
   | refine LeO.bind ?_ (fun _=>?_)
def laws_FnShownChain.T10 : Bool × List (List Nat × List Nat):=(true,[([],[]),([],[]),([],[]),([],[]),([3],[3]),([2,4],[2,4]),([5],[5]),([0,1,6],[0,1,6]),([],[]),([],[]),([8,9],[8,9]),([10],[10]),([7,11],[7,11]),([12,7],[12]),([13],[13]),([13],[13]),([14,15,13],[13,14,15]),([13],[13]),([13],[13]),([17,18,13],[13,17,18]),([19,13],[13,19]),([16,20,13,13],[13,16,20]),([13,21],[13,21])])
def laws_FnShownChain.B10 : List Nat:=[0,0,0,0,8,28,60,127,0,0,768,1792,4095,8191,16383,16383,65535,16383,16383,409599,933887,2097151,4194303]
theorem laws_FnShownChain.tab10 : rtab .any (opsOf Try.f3 10) = laws_FnShownChain.T10:=by kernel_rfl
theorem laws_FnShownChain.bits10 : waitsOk laws_FnShownChain.T10.2 laws_FnShownChain.B10 = true:=by kernel_rfl
def laws_FnShownChain.T12 : Bool × List (List Nat × List Nat):=(true,[([],[]),([],[]),([],[]),([],[]),([3],[3]),([4],[4]),([2,5],[2,5]),([6],[6]),([0,1,7],[0,1,7]),([8,8,0,1,2,3,4,5,6,7,8],[8])])
def laws_FnShownChain.B12 : List Nat:=[0,0,0,0,8,24,60,124,255,511]
theorem laws_FnShownChain.tab12 : rtab .any (opsOf Try.f3 12) = laws_FnShownChain.T12:=by kernel_rfl
theorem laws_FnShownChain.bits12 : waitsOk laws_FnShownChain.T12.2 laws_FnShownChain.B12 = true:=by kernel_rfl
set_option maxHeartbeats 8000000 in
set_option maxRecDepth 100000 in
theorem laws_FnShownChain.calls (k : Nat) (A0 : Option Addr) (c0 : Nat) (l0 : List Int) (r : Bool) (w : World) (hr0 : Kd.C (Kd.int .u8) w A0 l0.length l0) (hc0 : l0.length ≤ c0) (h : laws_FnShownChain.f k l0 = some r) :
  Calls Try.prog 3 #[.slice A0 l0.length c0] w fun e w'=>e = .returned (.bool r) ∧ Below w.heap.size w w':=by
 have hu25:=Try.underlying25
 have hu28:=Try.underlying28
 have HR0:=a0_ hr0
 have HC0:=a0_ hc0
 clear hr0 hc0
 have HB:=a0_ (Below.refl w.heap.size w)
 have H : (if (l0.length : Int) > 1048576 then (some true) else ((spec_DrawShownChain.f k l0).bind fun bt1=>((impl_ShownChain.f bt1.1 bt1.2.1 bt1.2.2).bind fun t10=>((spec_ShownChain.f k bt1.1 bt1.2.1 bt1.2.2).bind fun t13=>((laws_equalInts.f k t10 t13).bind fun t16=>(if t16 = true then (laws_FnShownChain.j0 k bt1.2.2 t10 ((t10.length : Int) == 0) bt1.1 bt1.2.1) else (laws_FnShownChain.j0 k bt1.2.2 t10 true bt1.1 bt1.2.1))))))) = some r:=h
 clear h
 by_cases c2 : (l0.length : Int) > 1048576
 ·rw [if_pos c2] at H
  have c2b0 : decide (1048576 < (l0.length : Int)) = true:=decide_eq_true c2
  have c2b1 : decide (1048576 < l0.length) = true:=decide_eq_true (by omega)
  clear c2
  obtain rfl:=Option.some.inj H
  go_enter Try.func3,Try.ntmps3
  go_wp2
  go_ret
  exact ⟨by first | rfl | (simp [errW_none,errW_some] <;> rfl) | (simp [*,errW_none,errW_some] <;> rfl),hb_⟩
 ·rw [if_neg c2] at H
  have c2b0 : decide (1048576 < (l0.length : Int)) = false:=decide_eq_false c2
  have c2b1 : decide (1048576 < l0.length) = false:=decide_eq_false (by omega)
  clear c2
  replace H:=Option.bind_eq_some_iff.mp H
  obtain ⟨⟨t1,t4,t7⟩,A30,H⟩:=H
  try dsimp only at H
  have A3:=a0_ A30
  clear A30
  replace H:=Option.bind_eq_some_iff.mp H
  obtain ⟨t10,A40,H⟩:=H
  try dsimp only at H
  have A4:=a0_ A40
  clear A40
  have HC5:=a0_ H
  clear H
  go_enter Try.func3,Try.ntmps3
  go_upto_region 5 with (first | ((with_reducible refine gate_callee (f:=10) rfl ?_);refine goesL_ (some 14) rfl rfl Try.func10 (by kernel_rfl) rfl #[.slice A0 l0.length c0] rfl lm_ ?_;(with_reducible refine (spec_DrawShownChain.calls k _ _ l0 t1 t4 t7 _ ?side1 ?side2 A3.out).mono ?_);(case side1=>repeat (first | exact HR0.out | (with_reducible refine Kd.C_alloc ?_ _) | (with_reducible refine Kd.C_drewN ?_ _) | (with_reducible refine Kd.C_drew ?_)));(case side2=>exact HC0.out);rintro e w6 ⟨v2,v5,rfl,ho0,ho1,hb⟩;refine ⟨_,rfl,?_⟩;have HO3:=a0_ (Kd.R_lower ho0 (below_size hb_));have HO6:=a0_ (Kd.R_lower ho1 (below_size hb_));replace HB:=a0_ (below_step hb_ hb);(try clear hb);(try clear ho0);(try clear ho1)) | ((with_reducible refine gate_dst (N:=3) rfl ?_);(try (refine gate_guard (by rfl) ?_;dsimp only));refine box_event ?hg (N:=3) ?hd (cs:=#[.slice none 0 0]) (t:=25) ?hr ?_;(case hd=>rfl);(case hg=>rfl);(case hr=>first | (go_simp;done) | (go_simp;rfl));intro gb8 hg w7 hbox hb;replace HO3:=rb_ HO3 hb;replace HO6:=rb_ HO6 hb;have BK8:=a0_ (hbox);have GW8:=a0_ ((by rw [hg];exact (below_size hb_) : w.heap.size ≤ gb8));have GE8:=a0_ ((by rw [hg];exact (below_size hb_) : w.heap.size ≤ gb8));replace HB:=a0_ (below_step hb_ hb);clear hb hbox hg) | ((with_reducible refine gate_dst (N:=4) rfl ?_);(try (refine gate_guard (by rfl) ?_;dsimp only));refine box_event ?hg (N:=4) ?hd (cs:=#[.slice none 0 0]) (t:=28) ?hr ?_;(case hd=>rfl);(case hg=>rfl);(case hr=>first | (go_simp;done) | (go_simp;rfl));intro gb9 hg w8 hbox hb;have n0_:=rb_ HO3 hb;have n1_:=rb_ HO6 hb;have n2_:=kb_ BK8 hb;have n3_:=a0_ (below_step hb_ hb);have n4_:=a0_ (hbox);have n5_:=a0_ ((by rw [hg];exact (below_size hb_) : w.heap.size ≤ gb9));have n6_:=a0_ ((by rw [hg];exact (below_size hb_) : w.heap.size ≤ gb9));have n7_:=a0_ ((by rw [hg];exact Nat.ne_of_lt (blk_lt (bb_ BK8.out)) : gb8 ≠ gb9));have n8_:=a0_ ((by rw [hg];exact Nat.ne_of_gt (blk_lt (bb_ BK8.out)) : gb9 ≠ gb8));clear HO3 HO6;clear BK8 HB;have HO3:=n0_;have HO6:=n1_;have BK8:=n2_;have HB:=n3_;have BK9:=n4_;have GW9:=n5_;have GE9:=n6_;have NB8_9:=n7_;have NB9_8:=n8_;clear n0_ n1_ n2_ n3_ n4_ n5_ n6_ n7_ n8_;clear hb hbox hg;obtain ⟨Ao9,co9,eo9⟩:=Kd.R_slice HO3.out;subst eo9;have hnb10:=NB8_9.out;have hnc10:=NB9_8.out;have hcz11_0 : w8.cell? ⟨gb8,0,none⟩ = some (.slice none 0 0):=(blk_cell BK8.out 0).trans rfl;have hfz11_0:=blk_frozen BK8.out 0;obtain ⟨Ao12,co12,eo12⟩:=Kd.R_slice HO6.out;subst eo12;have hcz13_0 : w8.cell? ⟨gb9,0,none⟩ = some (.slice none 0 0):=(blk_cell BK9.out 0).trans rfl;have hfz13_0:=blk_frozen BK9.out 0) | ((with_reducible refine gate_callee (f:=11) rfl ?_);refine goesL_ (some 21) rfl rfl Try.func11 (by kernel_rfl) rfl #[.agg #[.slice Ao9 t1.length co9],.agg #[.slice Ao12 t4.length co12],.int .i64 t7] rfl lm_ ?_;(with_reducible refine (impl_ShownChain.calls _ _ t1 _ _ t4 t7 t10 _ ?side1 ?side2 ?side3 ?side4 A4.out).mono ?_);(case side1=>refine (Kd.R_reads' (e:=87) (base:=w.heap.size) (ok:=fun k_=>True) (n:=t1.length) (c:=co9) ?_).2.2;exact (by (with_reducible repeat (first | apply Kd.R_alloc | apply Kd.R_drewN | apply Kd.R_drew));exact (Kd.R_mono (Kd.R_mono (Kd.R_far (p:=⟨gb9,0,none⟩) (Kd.R_far (p:=⟨gb8,0,none⟩) (Kd.R_types (Kd.R_types HO3.out BK8.out (by decide)) BK9.out (by decide)) (fun _ hk=>hk.1.2) (.slice Ao9 t1.length co9)) (fun _ hk=>hk.2) (.slice Ao12 t4.length co12)) (fun _ h_=>h_.1)) (fun _ h_=>h_.1))));(case side2=>exact (Kd.R_reads' HO3.out).2.1);(case side3=>refine (Kd.R_reads' (e:=43) (base:=w.heap.size) (ok:=fun k_=>True) (n:=t4.length) (c:=co12) ?_).2.2;exact (by (with_reducible repeat (first | apply Kd.R_alloc | apply Kd.R_drewN | apply Kd.R_drew));exact (Kd.R_mono (Kd.R_mono (Kd.R_far (p:=⟨gb9,0,none⟩) (Kd.R_far (p:=⟨gb8,0,none⟩) (Kd.R_types (Kd.R_types HO6.out BK8.out (by decide)) BK9.out (by decide)) (fun _ hk=>hk.1.2) (.slice Ao9 t1.length co9)) (fun _ hk=>hk.2) (.slice Ao12 t4.length co12)) (fun _ h_=>h_.1)) (fun _ h_=>h_.1))));(case side4=>exact (Kd.R_reads' HO6.out).2.1);rintro e w14 ⟨v11,rfl,ho0,hb⟩;refine ⟨_,rfl,?_⟩;replace HO3:=a0_ (Kd.R_below (by (with_reducible repeat (first | apply Kd.R_alloc | apply Kd.R_drewN | apply Kd.R_drew));exact (Kd.R_mono (Kd.R_mono (Kd.R_far (p:=⟨gb9,0,none⟩) (Kd.R_far (p:=⟨gb8,0,none⟩) (Kd.R_types (Kd.R_types HO3.out BK8.out (by decide)) BK9.out (by decide)) (fun _ hk=>hk.1.2) (.slice Ao9 t1.length co9)) (fun _ hk=>hk.2) (.slice Ao12 t4.length co12)) (fun _ h_=>h_.1)) (fun _ h_=>h_.1))) hb);replace HO6:=a0_ (Kd.R_below (by (with_reducible repeat (first | apply Kd.R_alloc | apply Kd.R_drewN | apply Kd.R_drew));exact (Kd.R_mono (Kd.R_mono (Kd.R_far (p:=⟨gb9,0,none⟩) (Kd.R_far (p:=⟨gb8,0,none⟩) (Kd.R_types (Kd.R_types HO6.out BK8.out (by decide)) BK9.out (by decide)) (fun _ hk=>hk.1.2) (.slice Ao9 t1.length co9)) (fun _ hk=>hk.2) (.slice Ao12 t4.length co12)) (fun _ h_=>h_.1)) (fun _ h_=>h_.1))) hb);have HO12:=a0_ (Kd.R_lower ho0 (below_size hb_));replace BK8:=a0_ (blk_below (g:=gb8) (o:=.cells #[.slice Ao9 t1.length co9] 25 (0,0)) (by (with_reducible repeat (first | refine blk_drewN ?_ _ | refine blk_drew ?_ | refine blk_alloc ?_ _));refine blk_far ?_ NB8_9.out _;(with_reducible repeat (first | refine blk_drewN ?_ _ | refine blk_drew ?_ | refine blk_alloc ?_ _));refine blk_put (cs:=#[.slice none 0 0]) ?_ 0 _ rfl;(with_reducible repeat (first | refine blk_drewN ?_ _ | refine blk_drew ?_ | refine blk_alloc ?_ _));exact BK8.out) hb);replace BK9:=a0_ (blk_below (g:=gb9) (o:=.cells #[.slice Ao12 t4.length co12] 28 (0,0)) (by (with_reducible repeat (first | refine blk_drewN ?_ _ | refine blk_drew ?_ | refine blk_alloc ?_ _));refine blk_put (cs:=#[.slice none 0 0]) ?_ 0 _ rfl;(with_reducible repeat (first | refine blk_drewN ?_ _ | refine blk_drew ?_ | refine blk_alloc ?_ _));refine blk_far ?_ NB9_8.out _;(with_reducible repeat (first | refine blk_drewN ?_ _ | refine blk_drew ?_ | refine blk_alloc ?_ _));exact BK9.out) hb);replace HB:=a0_ (below_step hb_ hb);(try clear hb);(try clear ho0)))
  (try simp only [Act.put,s1_,s2_,s3_])
  go_cut [33] (fun v33 wc=>∃ (kq : Nat) (x33_4 : Bool),v33 = .bool x33_4 ∧ Aside0 (laws_FnShownChain.j0 kq t7 t10 x33_4 t1 t4 = some r) ∧ Aside0 (kq ≤ k) ∧ Aside0 (Kd.R (Kd.int .i64) 3 wc w.heap.size (fun _=>True) v11 t10) ∧ Aside0 (Kd.R k87 87 wc w.heap.size (fun _=>True) (.slice Ao9 t1.length co9) t1) ∧ Aside0 (Kd.R k43 43 wc w.heap.size (fun _=>True) (.slice Ao12 t4.length co12) t4) ∧ Aside0 (wc.heap[gb8]? = some (.cells #[(.slice Ao9 t1.length co9)] 25 (0,0))) ∧ Aside0 (wc.heap[gb9]? = some (.cells #[(.slice Ao12 t4.length co12)] 28 (0,0))) ∧ Aside0 (Below w.heap.size w wc))
  case first =>
   have H:=HC5.out
   clear HC5
   replace H:=Option.bind_eq_some_iff.mp H
   obtain ⟨t13,A150,H⟩:=H
   try dsimp only at H
   have A15:=a0_ A150
   clear A150
   replace H:=Option.bind_eq_some_iff.mp H
   obtain ⟨t16,A160,H⟩:=H
   try dsimp only at H
   have A16:=a0_ A160
   clear A160
   by_cases c17 : t16 = true
   ·subst c17
    have H1 : (laws_FnShownChain.j0 k t7 t10 ((t10.length : Int) == 0) t1 t4) = some r:=by rw [if_pos rfl] at H;exact H
    clear H
    have H:=H1
    clear H1
    have H':=a0_ H
    clear H
    have hnb18:=NB8_9.out
    have hnc18:=NB9_8.out
    have hcz19_0 : w14.cell? ⟨gb8,0,none⟩ = some (.slice Ao9 t1.length co9):=(blk_cell BK8.out 0).trans rfl
    have hfz19_0:=blk_frozen BK8.out 0
    have hcz20_0 : w14.cell? ⟨gb9,0,none⟩ = some (.slice Ao12 t4.length co12):=(blk_cell BK9.out 0).trans rfl
    have hfz20_0:=blk_frozen BK9.out 0
    go_wp2_with (first | ((with_reducible refine gate_callee (f:=13) rfl ?_);refine goesL_ (some 26) rfl rfl Try.func13 (by kernel_rfl) rfl #[.agg #[.slice Ao9 t1.length co9],.agg #[.slice Ao12 t4.length co12],.int .i64 t7] rfl lm_ ?_;(with_reducible refine (spec_ShownChain.calls k _ _ t1 _ _ t4 t7 t13 _ ?side1 ?side2 ?side3 ?side4 A15.out).mono ?_);(case side1=>exact cc_ (Kd.R_reads' HO3.out).2.2);(case side2=>exact (Kd.R_reads' HO3.out).2.1);(case side3=>exact cc_ (Kd.R_reads' HO6.out).2.2);(case side4=>exact (Kd.R_reads' HO6.out).2.1);rintro e w21 ⟨v14,rfl,ho0,hb⟩;refine ⟨_,rfl,?_⟩;have n0_:=rb_ HO3 hb;have n1_:=rb_ HO6 hb;have n2_:=a0_ (Kd.R_elder' (rr_ HO12.out) (Kd.R_base ho0) hb);have n3_:=a0_ (Kd.R_lower (Kd.R_new' ho0 (Kd.R_lt (rr_ HO12.out))) (below_size hb_));have n4_:=kb_ BK8 hb;have n5_:=kb_ BK9 hb;have n6_:=a0_ (below_step hb_ hb);clear HO3 HO6;clear HO12 BK8;clear BK9 HB;have HO3:=n0_;have HO6:=n1_;have HO12:=n2_;have HO15:=n3_;have BK8:=n4_;have BK9:=n5_;have HB:=n6_;clear n0_ n1_ n2_ n3_ n4_ n5_ n6_;(try clear hb);(try clear ho0);obtain ⟨Ao22,co22,eo22⟩:=Kd.R_slice HO12.out;subst eo22;obtain ⟨Ao23,co23,eo23⟩:=Kd.R_slice HO15.out;subst eo23) | ((with_reducible refine gate_callee (f:=12) rfl ?_);refine goesL_ (some 27) rfl rfl Try.func12 (by kernel_rfl) rfl #[.slice Ao22 t10.length co22,.slice Ao23 t13.length co23] rfl lm_ ?_;(with_reducible refine (laws_equalInts.calls k _ _ t10 _ _ t13 true _ ?side1 ?side2 ?side3 ?side4 A16.out).mono ?_);(case side1=>exact cc_ (Kd.R_reads' HO12.out).2.2);(case side2=>exact (Kd.R_reads' HO12.out).2.1);(case side3=>exact cc_ (Kd.R_reads' HO15.out).2.2);(case side4=>exact (Kd.R_reads' HO15.out).2.1);rintro e w' ⟨rfl,⟨nd,rfl⟩⟩;refine ⟨_,rfl,?_⟩))
    go_meet
    case rel=>exact ⟨_,(((t10.length : Int) == 0)),(by first | rfl | (simp;done) | (simp [*];done)),H',⟨by first | omega | exact Nat.le_refl _⟩,⟨by (with_reducible repeat (first | apply Kd.R_alloc | apply Kd.R_drewN | apply Kd.R_drew));exact Kd.R_mono HO12.out (fun _ hk=>trivial)⟩,⟨by (with_reducible repeat (first | apply Kd.R_alloc | apply Kd.R_drewN | apply Kd.R_drew));exact HO3.out⟩,⟨by (with_reducible repeat (first | apply Kd.R_alloc | apply Kd.R_drewN | apply Kd.R_drew));exact HO6.out⟩,⟨by (with_reducible repeat (first | refine blk_drewN ?_ _ | refine blk_drew ?_ | refine blk_alloc ?_ _));exact BK8.out⟩,⟨by (with_reducible repeat (first | refine blk_drewN ?_ _ | refine blk_drew ?_ | refine blk_alloc ?_ _));exact BK9.out⟩,⟨hb_⟩⟩
   ·replace c17:=Bool.eq_false_iff.mpr c17
    subst c17
    have H1 : (laws_FnShownChain.j0 k t7 t10 true t1 t4) = some r:=by rw [if_neg (show ¬ (false = true) by decide)] at H;exact H
    clear H
    have H:=H1
    clear H1
    have H':=a0_ H
    clear H
    have hnb24:=NB8_9.out
    have hnc24:=NB9_8.out
    have hcz25_0 : w14.cell? ⟨gb8,0,none⟩ = some (.slice Ao9 t1.length co9):=(blk_cell BK8.out 0).trans rfl
    have hfz25_0:=blk_frozen BK8.out 0
    have hcz26_0 : w14.cell? ⟨gb9,0,none⟩ = some (.slice Ao12 t4.length co12):=(blk_cell BK9.out 0).trans rfl
    have hfz26_0:=blk_frozen BK9.out 0
    go_wp2_with (first | ((with_reducible refine gate_callee (f:=13) rfl ?_);refine goesL_ (some 26) rfl rfl Try.func13 (by kernel_rfl) rfl #[.agg #[.slice Ao9 t1.length co9],.agg #[.slice Ao12 t4.length co12],.int .i64 t7] rfl lm_ ?_;(with_reducible refine (spec_ShownChain.calls k _ _ t1 _ _ t4 t7 t13 _ ?side1 ?side2 ?side3 ?side4 A15.out).mono ?_);(case side1=>exact cc_ (Kd.R_reads' HO3.out).2.2);(case side2=>exact (Kd.R_reads' HO3.out).2.1);(case side3=>exact cc_ (Kd.R_reads' HO6.out).2.2);(case side4=>exact (Kd.R_reads' HO6.out).2.1);rintro e w27 ⟨v14,rfl,ho0,hb⟩;refine ⟨_,rfl,?_⟩;have n0_:=rb_ HO3 hb;have n1_:=rb_ HO6 hb;have n2_:=a0_ (Kd.R_elder' (rr_ HO12.out) (Kd.R_base ho0) hb);have n3_:=a0_ (Kd.R_lower (Kd.R_new' ho0 (Kd.R_lt (rr_ HO12.out))) (below_size hb_));have n4_:=kb_ BK8 hb;have n5_:=kb_ BK9 hb;have n6_:=a0_ (below_step hb_ hb);clear HO3 HO6;clear HO12 BK8;clear BK9 HB;have HO3:=n0_;have HO6:=n1_;have HO12:=n2_;have HO15:=n3_;have BK8:=n4_;have BK9:=n5_;have HB:=n6_;clear n0_ n1_ n2_ n3_ n4_ n5_ n6_;(try clear hb);(try clear ho0);obtain ⟨Ao28,co28,eo28⟩:=Kd.R_slice HO12.out;subst eo28;obtain ⟨Ao29,co29,eo29⟩:=Kd.R_slice HO15.out;subst eo29) | ((with_reducible refine gate_callee (f:=12) rfl ?_);refine goesL_ (some 27) rfl rfl Try.func12 (by kernel_rfl) rfl #[.slice Ao28 t10.length co28,.slice Ao29 t13.length co29] rfl lm_ ?_;(with_reducible refine (laws_equalInts.calls k _ _ t10 _ _ t13 false _ ?side1 ?side2 ?side3 ?side4 A16.out).mono ?_);(case side1=>exact cc_ (Kd.R_reads' HO12.out).2.2);(case side2=>exact (Kd.R_reads' HO12.out).2.1);(case side3=>exact cc_ (Kd.R_reads' HO15.out).2.2);(case side4=>exact (Kd.R_reads' HO15.out).2.1);rintro e w' ⟨rfl,⟨nd,rfl⟩⟩;refine ⟨_,rfl,?_⟩))
    go_meet
    case rel=>exact ⟨_,(true),(by first | rfl | (simp;done) | (simp [*];done)),H',⟨by first | omega | exact Nat.le_refl _⟩,⟨by (with_reducible repeat (first | apply Kd.R_alloc | apply Kd.R_drewN | apply Kd.R_drew));exact Kd.R_mono HO12.out (fun _ hk=>trivial)⟩,⟨by (with_reducible repeat (first | apply Kd.R_alloc | apply Kd.R_drewN | apply Kd.R_drew));exact HO3.out⟩,⟨by (with_reducible repeat (first | apply Kd.R_alloc | apply Kd.R_drewN | apply Kd.R_drew));exact HO6.out⟩,⟨by (with_reducible repeat (first | refine blk_drewN ?_ _ | refine blk_drew ?_ | refine blk_alloc ?_ _));exact BK8.out⟩,⟨by (with_reducible repeat (first | refine blk_drewN ?_ _ | refine blk_drew ?_ | refine blk_alloc ?_ _));exact BK9.out⟩,⟨hb_⟩⟩
  case rest =>
   clear HC5
   try clear c1
   try clear c2
   try clear c2b0
   try clear c2b1
   try clear p2
   try clear c3
   try clear c10
   try clear c11
   try clear c12
   try clear c13
   try clear c17
   try clear c18
   try clear c24
   try clear hcz11_0
   try clear hcz13_0
   try clear hcz19_0
   try clear hcz20_0
   try clear hcz25_0
   try clear hcz26_0
   try clear hfz11_0
   try clear hfz13_0
   try clear hfz19_0
   try clear hfz20_0
   try clear hfz25_0
   try clear hfz26_0
   obtain ⟨kq,x33_4,rfl,HA,HJ4,HO_6,Z9,Z10,BK8,BK9,HB⟩:=hcut
   cases kq with
   | zero=>exact absurd HA.out (by simp [laws_FnShownChain.j0])
   | succ kj4 =>
    have H:=HA.out
    clear HA
    simp only [laws_FnShownChain.j0] at H
    by_cases c30 : x33_4 = true
    ·subst c30
     have H1 : ((spec_ShownChain.f kj4 t1 t4 t7).bind fun t17=>((laws_equalInts.f kj4 t10 t17).bind fun t20=>(some t20))) = some r:=by rw [if_pos rfl] at H;exact H
     clear H
     have H:=H1
     clear H1
     replace H:=Option.bind_eq_some_iff.mp H
     obtain ⟨t17,A310,H⟩:=H
     try dsimp only at H
     have A31:=a0_ A310
     clear A310
     replace H:=Option.bind_eq_some_iff.mp H
     obtain ⟨t20,A320,H⟩:=H
     replace H : (some t20) = some r:=H
     have A32:=a0_ A320
     clear A320
     obtain rfl:=Option.some.inj H
     have hnb33:=NB8_9.out
     have hnc33:=NB9_8.out
     have hcz34_0 : wc.cell? ⟨gb8,0,none⟩ = some (.slice Ao9 t1.length co9):=(blk_cell BK8.out 0).trans rfl
     have hfz34_0:=blk_frozen BK8.out 0
     have hcz35_0 : wc.cell? ⟨gb9,0,none⟩ = some (.slice Ao12 t4.length co12):=(blk_cell BK9.out 0).trans rfl
     have hfz35_0:=blk_frozen BK9.out 0
     go_wp2_with (first | ((with_reducible refine gate_callee (f:=13) rfl ?_);refine goesL_ (some 38) rfl rfl Try.func13 (by kernel_rfl) rfl #[.agg #[.slice Ao9 t1.length co9],.agg #[.slice Ao12 t4.length co12],.int .i64 t7] rfl lm_ ?_;(with_reducible refine (spec_ShownChain.calls kj4 _ _ t1 _ _ t4 t7 t17 _ ?side1 ?side2 ?side3 ?side4 A31.out).mono ?_);(case side1=>exact cc_ (Kd.R_reads' Z9.out).2.2);(case side2=>exact (Kd.R_reads' Z9.out).2.1);(case side3=>exact cc_ (Kd.R_reads' Z10.out).2.2);(case side4=>exact (Kd.R_reads' Z10.out).2.1);rintro e w36 ⟨v18,rfl,ho0,hb⟩;refine ⟨_,rfl,?_⟩;have n0_:=a0_ (Kd.R_elder' (rr_ HO_6.out) (Kd.R_base ho0) hb);have n1_:=rb_ Z9 hb;have n2_:=rb_ Z10 hb;have n3_:=a0_ (Kd.R_lower (Kd.R_new' ho0 (Kd.R_lt (rr_ HO_6.out))) (below_size hb_));have n4_:=kb_ BK8 hb;have n5_:=kb_ BK9 hb;have n6_:=a0_ (below_step hb_ hb);clear HO_6 Z9;clear Z10 BK8;clear BK9 HB;have HO_6:=n0_;have Z9:=n1_;have Z10:=n2_;have HO19:=n3_;have BK8:=n4_;have BK9:=n5_;have HB:=n6_;clear n0_ n1_ n2_ n3_ n4_ n5_ n6_;(try clear hb);(try clear ho0);obtain ⟨Ao37,co37,eo37⟩:=Kd.R_slice HO_6.out;subst eo37;obtain ⟨Ao38,co38,eo38⟩:=Kd.R_slice HO19.out;subst eo38) | ((with_reducible refine gate_callee (f:=12) rfl ?_);refine goesL_ (some 39) rfl rfl Try.func12 (by kernel_rfl) rfl #[.slice Ao37 t10.length co37,.slice Ao38 t17.length co38] rfl lm_ ?_;(with_reducible refine (laws_equalInts.calls kj4 _ _ t10 _ _ t17 t20 _ ?side1 ?side2 ?side3 ?side4 A32.out).mono ?_);(case side1=>exact cc_ (Kd.R_reads' HO_6.out).2.2);(case side2=>exact (Kd.R_reads' HO_6.out).2.1);(case side3=>exact cc_ (Kd.R_reads' HO19.out).2.2);(case side4=>exact (Kd.R_reads' HO19.out).2.1);rintro e w' ⟨rfl,⟨nd,rfl⟩⟩;refine ⟨_,rfl,?_⟩))
     go_ret
     exact ⟨by first | rfl | (simp [errW_none,errW_some] <;> rfl) | (simp [*,errW_none,errW_some] <;> rfl),hb_⟩
    ·replace c30:=Bool.eq_false_iff.mpr c30
     subst c30
     have H1 : (laws_FnShownChain.l0 kj4 t7 t10 1 t1 t4) = some r:=by rw [if_neg (show ¬ (false = true) by decide)] at H;exact H
     clear H
     have H:=H1
     clear H1
     have H':=a0_ H
     clear H
     go_wp2
     go_loopg [7] kj4 (fun kq v7 w'=>∃ (x7_2 : Int),v7 = .int .i64 x7_2 ∧ Aside0 (laws_FnShownChain.l0 kq t7 t10 x7_2 t1 t4 = some r) ∧ Aside0 (kq ≤ kj4) ∧ Aside0 (Kd.R (Kd.int .i64) 3 w' w.heap.size (fun _=>True) v11 t10) ∧ Aside0 (Kd.R k87 87 w' w.heap.size (fun _=>True) (.slice Ao9 t1.length co9) t1) ∧ Aside0 (Kd.R k43 43 w' w.heap.size (fun _=>True) (.slice Ao12 t4.length co12) t4) ∧ Aside0 (w'.heap[gb8]? = some (.cells #[(.slice Ao9 t1.length co9)] 25 (0,0))) ∧ Aside0 (w'.heap[gb9]? = some (.cells #[(.slice Ao12 t4.length co12)] 28 (0,0))) ∧ Aside0 (Below w.heap.size w w'))
     case atStart=>exact ⟨(1),(by first | rfl | (simp;done) | (simp [*];done)),H',⟨Nat.le_refl _⟩,⟨by (with_reducible repeat (first | apply Kd.R_alloc | apply Kd.R_drewN | apply Kd.R_drew));exact HO_6.out⟩,⟨by (with_reducible repeat (first | apply Kd.R_alloc | apply Kd.R_drewN | apply Kd.R_drew));exact Z9.out⟩,⟨by (with_reducible repeat (first | apply Kd.R_alloc | apply Kd.R_drewN | apply Kd.R_drew));exact Z10.out⟩,⟨by (with_reducible repeat (first | refine blk_drewN ?_ _ | refine blk_drew ?_ | refine blk_alloc ?_ _));exact BK8.out⟩,⟨by (with_reducible repeat (first | refine blk_drewN ?_ _ | refine blk_drew ?_ | refine blk_alloc ?_ _));exact BK9.out⟩,⟨hb_⟩⟩
     case round =>
      clear H'
      try clear c1
      try clear c2
      try clear c2b0
      try clear c2b1
      try clear p2
      try clear c3
      try clear c10
      try clear c11
      try clear c12
      try clear c13
      try clear c17
      try clear c18
      try clear c24
      try clear c30
      try clear c33
      try clear hcz11_0
      try clear hcz13_0
      try clear hcz19_0
      try clear hcz20_0
      try clear hcz25_0
      try clear hcz26_0
      try clear hcz34_0
      try clear hcz35_0
      try clear hfz11_0
      try clear hfz13_0
      try clear hfz19_0
      try clear hfz20_0
      try clear hfz25_0
      try clear hfz26_0
      try clear hfz34_0
      try clear hfz35_0
      try clear p2
      obtain ⟨x7_2,rfl,HA,HK2,HO_6,Z9,Z10,BK8,BK9,HB⟩:=hrel
      cases gk with
      | zero=>exact absurd HA.out (by simp [laws_FnShownChain.l0])
      | succ k2 =>
       have H:=HA.out
       clear HA
       simp only [laws_FnShownChain.l0] at H
       by_cases c39 : x7_2 < (t10.length : Int)
       ·rw [if_pos c39] at H
        have c39b0 : decide (x7_2 < (t10.length : Int)) = true:=decide_eq_true c39
        clear c39
        obtain ⟨ji40,hji40⟩ : ∃ j_ : Int,(wrap64 (x7_2 - 1)) = j_:=⟨_,rfl⟩
        replace H : (if 0 ≤ (ji40) then (if (ji40) < (t10.length : Int) then ((impl_ShownNext.f t1 t4 (rd t10 (ji40))).bind fun t26=>(if 0 ≤ x7_2 then (if t26 = (rd t10 x7_2) then (if x7_2 ≤ (t10.length : Int) then ((laws_isIn.f k2 (t10.take (x7_2 : Int).toNat) (rd t10 x7_2)).bind fun t33=>(if t33 = true then (some false) else (laws_FnShownChain.l0 k2 t7 t10 (wrap64 (x7_2 + 1)) t1 t4))) else (none)) else (some false)) else (none))) else (none)) else (none)) = some r:=by first | (rw [hji40] at H;exact H) | (simp only [hji40] at H ⊢;exact H)
        have hji40w : (IntKind.i64.wrap (x7_2 - 1)) = ji40:=(i64_w _).trans hji40
        by_cases c41 : 0 ≤ (ji40)
        ·rw [if_pos c41] at H
         have c41b0 : decide (0 ≤ (ji40)) = true:=decide_eq_true c41
         clear c41
         by_cases c42 : (ji40) < (t10.length : Int)
         ·rw [if_pos c42] at H
          have c42b0 : decide ((ji40) < (t10.length : Int)) = true:=decide_eq_true c42
          clear c42
          replace H:=Option.bind_eq_some_iff.mp H
          obtain ⟨t26,A430,H⟩:=H
          try dsimp only at H
          have A43:=a0_ A430
          clear A430
          by_cases c44 : 0 ≤ x7_2
          ·rw [if_pos c44] at H
           have c44b0 : decide (0 ≤ x7_2) = true:=decide_eq_true c44
           clear c44
           by_cases c45 : t26 = (rd t10 x7_2)
           ·rw [if_pos c45] at H
            have c45b0 : (t26 == (rd t10 x7_2)) = true:=beq_iff_eq.mpr c45
            have c45b1 : (t26 != (rd t10 x7_2)) = false:=bne_eq_false_iff_eq.mpr c45
            clear c45
            have c46b0:=eq_true (of_decide_eq_true (by first | (with_reducible assumption) | assumption) : 0 ≤ x7_2)
            by_cases c47 : x7_2 ≤ (t10.length : Int)
            ·rw [if_pos c47] at H
             have c47b0:=eq_true c47
             have c47b1 : decide (x7_2 ≤ (t10.length : Int)) = true:=decide_eq_true c47
             clear c47
             obtain ⟨y28,hy28⟩ : ∃ y_ : List Int,y_ = (t10.take (x7_2 : Int).toNat):=⟨_,rfl⟩
             replace H : ((laws_isIn.f k2 y28 (rd t10 x7_2)).bind fun t33=>(if t33 = true then (some false) else (laws_FnShownChain.l0 k2 t7 t10 (wrap64 (x7_2 + 1)) t1 t4))) = some r:=by first | (rw [hy28];with_reducible exact H) | (have H2_:=(Option.bind_some _ _).symm.trans H;rw [hy28];with_reducible exact H2_) | (have H2_:=(Option.bind_some _ _).symm.trans H;with_reducible exact H2_) | with_reducible exact H | (rw [hy28];exact H) | exact H
             have Ny28:=a0_ hy28
             clear hy28
             replace H:=Option.bind_eq_some_iff.mp H
             obtain ⟨t33,A480,H⟩:=H
             try dsimp only at H
             have A48:=a0_ A480
             clear A480
             by_cases c49 : t33 = true
             ·subst c49
              have H1 : (some false) = some r:=by rw [if_pos rfl] at H;exact H
              clear H
              have H:=H1
              clear H1
              obtain rfl:=Option.some.inj H
              obtain ⟨Ao50,co50,eo50⟩:=Kd.R_slice HO_6.out
              subst eo50
              try go_wp2
              have n0_:=a0_ (Kd.R_drew HO_6.out)
              have n1_:=a0_ (Kd.R_drew Z9.out)
              have n2_:=a0_ (Kd.R_drew Z10.out)
              have n3_:=a0_ (blk_drew BK8.out)
              have n4_:=a0_ (blk_drew BK9.out)
              have n5_:=a0_ (below_drew1 HB.out)
              clear HO_6
              clear Z9
              clear Z10
              clear BK8
              clear BK9
              clear HB
              have HO_6:=n0_
              have Z9:=n1_
              have Z10:=n2_
              have BK8:=n3_
              have BK9:=n4_
              have HB:=n5_
              clear n0_ n1_ n2_ n3_ n4_ n5_
              have p25 : 0 ≤ ((ji40) : Int):=of_decide_eq_true (by first | (with_reducible assumption) | assumption)
              have q25 : (ji40) < (t10.length : Int):=of_decide_eq_true (by first | (with_reducible assumption) | assumption)
              obtain ⟨ad25,e25,hx25_0⟩:=Kd.at_int (Kd.R_reads' HO_6.out).2.2 (ji40) p25 q25
              cases e25
              replace p25:=eq_true p25
              replace q25:=eq_true q25
              have p27 : 0 ≤ (x7_2 : Int):=of_decide_eq_true (by first | (with_reducible assumption) | assumption)
              have q27 : x7_2 < (t10.length : Int):=of_decide_eq_true (by first | (with_reducible assumption) | assumption)
              obtain ⟨ad27,e27,hx27_0⟩:=Kd.at_int (Kd.R_reads' HO_6.out).2.2 x7_2 p27 q27
              obtain rfl : ad25 = ad27:=(by injection e27)
              replace p27:=eq_true p27
              replace q27:=eq_true q27
              have p32 : 0 ≤ (x7_2 : Int):=of_decide_eq_true (by first | (with_reducible assumption) | assumption)
              have q32 : x7_2 < (t10.length : Int):=of_decide_eq_true (by first | (with_reducible assumption) | assumption)
              obtain ⟨ad32,e32,hx32_0⟩:=Kd.at_int (Kd.R_reads' HO_6.out).2.2 x7_2 p32 q32
              obtain rfl : ad25 = ad32:=(by injection e32)
              replace p32:=eq_true p32
              replace q32:=eq_true q32
              refine start_ (n:=23) (S:=fun w'=>w'.cell? ⟨gb8,0,none⟩ = some (.slice Ao9 t1.length co9) ∧ w'.cell? ⟨gb9,0,none⟩ = some (.slice Ao12 t4.length co12) ∧ w'.cell? (ad25.add ((ji40)).toNat) = some (.int .i64 (rd t10 (ji40))) ∧ w'.cell? (ad25.add (x7_2).toNat) = some (.int .i64 (rd t10 x7_2)) ∧ w'.cell? (ad25.add (x7_2).toNat) = some (.int .i64 (rd t10 x7_2))) (ds:=[]) #[false,false,false,false,false,false,false,false,false,false,false,false,false,false,false,false,false,false,false,false,false,false,false] (by kernel_rfl) rfl rfl ⟨(blk_cell BK8.out 0).trans rfl,(blk_cell BK9.out 0).trans rfl,hx25_0,hx27_0,hx32_0⟩ (fun hHeld=>?_);refine with_tabW laws_FnShownChain.tab10 laws_FnShownChain.bits10 (fun HT_ HW_=>?_)
              generalize wr.drew = w51 at HO_6 Z9 Z10 BK8 BK9 HB hx25_0 hx27_0 hx32_0 hHeld ⊢
              refine pure_ (i:=2) (N:=some 48) (v:=?_) (a':=?_) #[false,false,true,false,false,false,false,false,false,false,false,false,false,false,false,false,false,false,false,false,false,false,false] rfl rfl (any_of HT_.out (by kernel_rfl)) (fun _ _ _ h=>h) (Or.inl ⟨by rfl,?_⟩) ?_ ?_
              rotate_left
              ·intro w'
               go_simp
               with_reducible rfl
              rotate_left
              ·simp only [Act.put,s1_,s2_,s3_,i64_w,i32_w]
               rfl
              refine pure_ (i:=3) (N:=some 49) (v:=?_) (a':=?_) #[false,false,true,true,false,false,false,false,false,false,false,false,false,false,false,false,false,false,false,false,false,false,false] rfl rfl (any_of HT_.out (by kernel_rfl)) (fun _ _ _ h=>h) (Or.inl ⟨by rfl,?_⟩) ?_ ?_
              rotate_left
              ·intro w'
               go_simp
               with_reducible rfl
              rotate_left
              ·simp only [Act.put,s1_,s2_,s3_,i64_w,i32_w]
               rfl
              refine pure_ (i:=4) (N:=some 50) (v:=?_) (a':=?_) #[false,false,true,true,true,false,false,false,false,false,false,false,false,false,false,false,false,false,false,false,false,false,false] rfl rfl (any_of HT_.out (by kernel_rfl)) (fun _ _ _ h=>h) (Or.inl ⟨by rfl,?_⟩) ?_ ?_
              rotate_left
              ·intro w'
               go_simp
               with_reducible rfl
              rotate_left
              ·simp only [Act.put,s1_,s2_,s3_,i64_w,i32_w]
               rfl
              refine pure_ (i:=5) (N:=some 51) (v:=?_) (a':=?_) #[false,false,true,true,true,true,false,false,false,false,false,false,false,false,false,false,false,false,false,false,false,false,false] rfl rfl (any_of HT_.out (by kernel_rfl)) (fun _ _ _ h=>h) (Or.inl ⟨by rfl,?_⟩) ?_ ?_
              rotate_left
              ·intro w'
               go_simp
               with_reducible rfl
              rotate_left
              ·simp only [Act.put,s1_,s2_,s3_,i64_w,i32_w]
               rfl
              refine pure_ (i:=8) (N:=some 54) (v:=?_) (a':=?_) #[false,false,true,true,true,true,false,false,true,false,false,false,false,false,false,false,false,false,false,false,false,false,false] rfl rfl (any_of HT_.out (by kernel_rfl)) (fun _ _ _ h=>h) (Or.inl ⟨by rfl,?_⟩) ?_ ?_
              rotate_left
              ·intro w'
               go_simp
               with_reducible rfl
              rotate_left
              ·simp only [Act.put,s1_,s2_,s3_,i64_w,i32_w]
               rfl
              refine pure_ (i:=9) (N:=some 55) (v:=?_) (a':=?_) #[false,false,true,true,true,true,false,false,true,true,false,false,false,false,false,false,false,false,false,false,false,false,false] rfl rfl (any_of HT_.out (by kernel_rfl)) (fun _ _ _ h=>h) (Or.inl ⟨by rfl,?_⟩) ?_ ?_
              rotate_left
              ·intro w'
               go_simp
               with_reducible rfl
              rotate_left
              ·simp only [Act.put,s1_,s2_,s3_,i64_w,i32_w]
               rfl
              refine pure_ (i:=10) (N:=some 56) (v:=?_) (a':=?_) #[false,false,true,true,true,true,false,false,true,true,true,false,false,false,false,false,false,false,false,false,false,false,false] rfl rfl (any_of HT_.out (by kernel_rfl)) (fun _ _ _ h=>h) (Or.inl ⟨by rfl,?_⟩) ?_ ?_
              rotate_left
              ·intro w'
               go_simp
               with_reducible rfl
              rotate_left
              ·simp only [Act.put,s1_,s2_,s3_,i64_w,i32_w]
               rfl
              refine take_ (i:=0) (N:=some 46) (v:=?_) (a':=?_) #[true,false,true,true,true,true,false,false,true,true,true,false,false,false,false,false,false,false,false,false,false,false,false] rfl rfl (take_ofW HT_.out HW_.out (by kernel_rfl)) (fun _ _ _ h=>h) (Or.inl ⟨by rfl,?_⟩) hHeld ?_ ?_
              rotate_left
              ·rintro w' ⟨s0,s1,s2,s3,s4⟩
               go_simp
               with_reducible rfl
              rotate_left
              ·simp only [Act.put,s1_,s2_,s3_,i64_w,i32_w]
               rfl
              refine take_ (i:=1) (N:=some 47) (v:=?_) (a':=?_) #[true,true,true,true,true,true,false,false,true,true,true,false,false,false,false,false,false,false,false,false,false,false,false] rfl rfl (take_ofW HT_.out HW_.out (by kernel_rfl)) (fun _ _ _ h=>h) (Or.inl ⟨by rfl,?_⟩) hHeld ?_ ?_
              rotate_left
              ·rintro w' ⟨s0,s1,s2,s3,s4⟩
               go_simp
               with_reducible rfl
              rotate_left
              ·simp only [Act.put,s1_,s2_,s3_,i64_w,i32_w]
               rfl
              refine take_ (i:=6) (N:=some 52) (v:=?_) (a':=?_) #[true,true,true,true,true,true,true,false,true,true,true,false,false,false,false,false,false,false,false,false,false,false,false] rfl rfl (take_ofW HT_.out HW_.out (by kernel_rfl)) (fun _ _ _ h=>h) (Or.inl ⟨by rfl,?_⟩) hHeld ?_ ?_
              rotate_left
              ·rintro w' ⟨s0,s1,s2,s3,s4⟩
               go_simp
               with_reducible rfl
              rotate_left
              ·simp only [Act.put,s1_,s2_,s3_,i64_w,i32_w]
               rfl
              refine take_ (i:=11) (N:=some 57) (v:=?_) (a':=?_) #[true,true,true,true,true,true,true,false,true,true,true,true,false,false,false,false,false,false,false,false,false,false,false] rfl rfl (take_ofW HT_.out HW_.out (by kernel_rfl)) (fun _ _ _ h=>h) (Or.inl ⟨by rfl,?_⟩) hHeld ?_ ?_
              rotate_left
              ·rintro w' ⟨s0,s1,s2,s3,s4⟩
               go_simp
               with_reducible rfl
              rotate_left
              ·simp only [Act.put,s1_,s2_,s3_,i64_w,i32_w]
               rfl
              refine one_ (i:=7) (N:=some 53) #[true,true,true,true,true,true,true,true,true,true,true,true,false,false,false,false,false,false,false,false,false,false,false] rfl rfl (one_of HT_.out (by kernel_rfl)) (by decide) (fun K hK=>?_)
              refine goes_ Try.func14 (by kernel_rfl) rfl #[.agg #[.slice Ao9 t1.length co9],.agg #[.slice Ao12 t4.length co12],.int .i64 (rd t10 (ji40))] (by rfl) rfl rfl (by (try simp only [List.map_toArray,List.map_cons,List.map_nil]);first | done | (simp only [hji40];rfl) | rfl | (simp only [List.length_drop,List.length_take];rfl)) ?_
              with_reducible refine (impl_ShownNext.calls _ _ t1 _ _ t4 (rd t10 (ji40)) t26 _ ?side1 ?side2 ?side3 ?side4 A43.out).mono ?_
              (case side1=>exact cc_ (Kd.R_reads' Z9.out).2.2)
              (case side2=>exact (Kd.R_reads' Z9.out).2.1)
              (case side3=>exact cc_ (Kd.R_reads' Z10.out).2.2)
              (case side4=>exact (Kd.R_reads' Z10.out).2.1)
              rintro e w52 ⟨rfl,hb⟩
              have HS2_:=(hb.cell (World.block_lt_of_cell? _ _ (hHeld.2.2.1))).trans (hHeld.2.2.1)
              have HS3_:=(hb.cell (World.block_lt_of_cell? _ _ (hHeld.2.2.2.1))).trans (hHeld.2.2.2.1)
              have HS4_:=(hb.cell (World.block_lt_of_cell? _ _ (hHeld.2.2.2.2))).trans (hHeld.2.2.2.2)
              refine ⟨_,rfl,?_⟩
              have n0_:=rb_ HO_6 hb
              have n1_:=rb_ Z9 hb
              have n2_:=rb_ Z10 hb
              have n3_:=kb_ BK8 hb
              have n4_:=kb_ BK9 hb
              have n5_:=a0_ (below_step hb_ hb)
              clear HO_6
              clear Z9
              clear Z10
              clear BK8
              clear BK9
              clear HB
              have HO_6:=n0_
              have Z9:=n1_
              have Z10:=n2_
              have BK8:=n3_
              have BK9:=n4_
              have HB:=n5_
              clear n0_ n1_ n2_ n3_ n4_ n5_
              (try clear hb)
              (try clear hb2)
              (try clear hk)
              (try clear hi)
              have q53 : (x7_2 : Int) ≤ ((t10.length : Int) : Int):=of_decide_eq_true (by first | (with_reducible assumption) | assumption)
              obtain ⟨i053,hi053,_,hsz53,_⟩:=info_parts info3
              have hroom53 : t10.length ≤ co50:=(Kd.R_reads' HO_6.out).2.1
              have hC53 : Kd.C (Kd.int .i64) _ (some ad25) t10.length t10:=(Kd.R_reads' HO_6.out).2.2
              have hcut53:=cut_to (P:=Try.prog) 31 3 .i64 Try.underlying31 hi053 (some ad25) t10.length co50 x7_2 (of_decide_eq_true (by first | (with_reducible assumption) | assumption)) q53 hroom53
              have hr53:=Kd.C_take (m:=(x7_2 : Int).toNat) hC53 (by omega)
              have hy53 : y28.length = (x7_2 : Int).toNat:=(by rw [Ny28.out,List.length_take];omega)
              rw [← Ny28.out] at hr53
              rw [← hy53] at hcut53
              have HR31:=a0_ hr53
              have HC31:=a0_ (show y28.length ≤ co50 from by omega)
              clear hr53 hC53 hroom53 hi053 hsz53
              have KY53:=a0_ hy53
              clear hy53
              have KL53:=a0_ (show (x7_2 : Int).toNat ≤ t10.length from by omega)
              replace q53:=eq_true q53
              refine hK.out _ _ ⟨(blk_cell BK8.out 0).trans rfl,(blk_cell BK9.out 0).trans rfl,HS2_,HS3_,HS4_⟩ (fun hHeld=>?_)
              clear hK K
              refine norm_ (a':=?_) ?_ ?_
              rotate_left
              ·show Act.put _ (some 53) _ = _
               simp only [Act.put,s1_,s2_,s3_,i64_w,i32_w]
               rfl
              refine pure_ (i:=12) (N:=some 58) (v:=?_) (a':=?_) #[true,true,true,true,true,true,true,true,true,true,true,true,true,false,false,false,false,false,false,false,false,false,false] rfl rfl (any_of HT_.out (by kernel_rfl)) (fun _ _ _ h=>h) (Or.inl ⟨by rfl,?_⟩) ?_ ?_
              rotate_left
              ·intro w'
               go_simp
               with_reducible rfl
              rotate_left
              ·simp only [Act.put,s1_,s2_,s3_,i64_w,i32_w]
               rfl
              refine pure_ (i:=13) (N:=some 59) (v:=?_) (a':=?_) #[true,true,true,true,true,true,true,true,true,true,true,true,true,true,false,false,false,false,false,false,false,false,false] rfl rfl (any_of HT_.out (by kernel_rfl)) (fun _ _ _ h=>h) (Or.inl ⟨by rfl,?_⟩) ?_ ?_
              rotate_left
              ·intro w'
               go_simp
               with_reducible rfl
              rotate_left
              ·simp only [Act.put,s1_,s2_,s3_,i64_w,i32_w]
               rfl
              refine pure_ (i:=14) (N:=some 60) (v:=?_) (a':=?_) #[true,true,true,true,true,true,true,true,true,true,true,true,true,true,true,false,false,false,false,false,false,false,false] rfl rfl (any_of HT_.out (by kernel_rfl)) (fun _ _ _ h=>h) (Or.inl ⟨by rfl,?_⟩) ?_ ?_
              rotate_left
              ·intro w'
               go_simp
               with_reducible rfl
              rotate_left
              ·simp only [Act.put,s1_,s2_,s3_,i64_w,i32_w]
               rfl
              refine pure_ (i:=15) (N:=some 61) (v:=?_) (a':=?_) #[true,true,true,true,true,true,true,true,true,true,true,true,true,true,true,true,false,false,false,false,false,false,false] rfl rfl (any_of HT_.out (by kernel_rfl)) (fun _ _ _ h=>h) (Or.inl ⟨by rfl,?_⟩) ?_ ?_
              rotate_left
              ·intro w'
               go_simp
               with_reducible rfl
              rotate_left
              ·simp only [Act.put,s1_,s2_,s3_,i64_w,i32_w]
               rfl
              refine pure_ (i:=16) (N:=some 62) (v:=?_) (a':=?_) #[true,true,true,true,true,true,true,true,true,true,true,true,true,true,true,true,true,false,false,false,false,false,false] rfl rfl (any_of HT_.out (by kernel_rfl)) (fun _ _ _ h=>h) (Or.inl ⟨by rfl,?_⟩) ?_ ?_
              rotate_left
              ·intro w'
               go_simp
               with_reducible rfl
              rotate_left
              ·simp only [Act.put,s1_,s2_,s3_,i64_w,i32_w]
               rfl
              refine pure_ (i:=17) (N:=some 63) (v:=?_) (a':=?_) #[true,true,true,true,true,true,true,true,true,true,true,true,true,true,true,true,true,true,false,false,false,false,false] rfl rfl (any_of HT_.out (by kernel_rfl)) (fun _ _ _ h=>h) (Or.inl ⟨by rfl,?_⟩) ?_ ?_
              rotate_left
              ·intro w'
               go_simp
               with_reducible rfl
              rotate_left
              ·simp only [Act.put,s1_,s2_,s3_,i64_w,i32_w]
               rfl
              refine pure_ (i:=18) (N:=some 64) (v:=?_) (a':=?_) #[true,true,true,true,true,true,true,true,true,true,true,true,true,true,true,true,true,true,true,false,false,false,false] rfl rfl (any_of HT_.out (by kernel_rfl)) (fun _ _ _ h=>h) (Or.inl ⟨by rfl,?_⟩) ?_ ?_
              rotate_left
              ·intro w'
               go_simp
               with_reducible rfl
              rotate_left
              ·simp only [Act.put,s1_,s2_,s3_,i64_w,i32_w]
               rfl
              refine pure_ (i:=19) (N:=some 65) (v:=?_) (a':=?_) #[true,true,true,true,true,true,true,true,true,true,true,true,true,true,true,true,true,true,true,true,false,false,false] rfl rfl (any_of HT_.out (by kernel_rfl)) (fun _ _ _ h=>h) (Or.inl ⟨by rfl,?_⟩) ?_ ?_
              rotate_left
              ·intro w'
               go_simp
               with_reducible rfl
              rotate_left
              ·simp only [Act.put,s1_,s2_,s3_,i64_w,i32_w]
               rfl
              refine take_ (i:=20) (N:=some 66) (v:=?_) (a':=?_) #[true,true,true,true,true,true,true,true,true,true,true,true,true,true,true,true,true,true,true,true,true,false,false] rfl rfl (take_ofW HT_.out HW_.out (by kernel_rfl)) (fun _ _ _ h=>h) (Or.inl ⟨by rfl,?_⟩) hHeld ?_ ?_
              rotate_left
              ·rintro w' ⟨s0,s1,s2,s3,s4⟩
               go_simp
               with_reducible rfl
              rotate_left
              ·simp only [Act.put,s1_,s2_,s3_,i64_w,i32_w]
               rfl
              refine one_ (i:=21) (N:=some 67) #[true,true,true,true,true,true,true,true,true,true,true,true,true,true,true,true,true,true,true,true,true,true,false] rfl rfl (one_of HT_.out (by kernel_rfl)) (by decide) (fun K hK=>?_)
              refine goes_ Try.func15 (by kernel_rfl) rfl #[.slice (some ad25) y28.length co50,.int .i64 (rd t10 x7_2)] (by rfl) rfl rfl lm_ ?_
              with_reducible refine (laws_isIn.calls k2 _ _ y28 (rd t10 x7_2) true _ ?side1 ?side2 A48.out).mono ?_
              (case side1=>repeat (first | exact (by repeat (first | (with_reducible exact HR31.out) | (with_reducible refine Kd.C_alloc ?_ _) | (with_reducible refine Kd.C_drewN ?_ _) | (with_reducible refine Kd.C_drew ?_) | exact HR31.out)) | (with_reducible refine Kd.C_alloc ?_ _) | (with_reducible refine Kd.C_drewN ?_ _) | (with_reducible refine Kd.C_drew ?_)))
              (case side2=>exact HC31.out)
              rintro e w' ⟨rfl,⟨nd,rfl⟩⟩
              refine ⟨_,rfl,?_⟩
              refine hK.out _ _ ⟨(blk_cell BK8.out 0).trans rfl,(blk_cell BK9.out 0).trans rfl,hHeld.2.2.1,hHeld.2.2.2.1,hHeld.2.2.2.2⟩ (fun hHeld=>?_)
              clear hK K
              refine norm_ (a':=?_) ?_ ?_
              rotate_left
              ·show Act.put _ (some 67) _ = _
               simp only [Act.put,s1_,s2_,s3_,i64_w,i32_w]
               rfl
              refine pure_ (i:=22) (N:=some 68) (v:=?_) (a':=?_) #[true,true,true,true,true,true,true,true,true,true,true,true,true,true,true,true,true,true,true,true,true,true,true] rfl rfl (any_of HT_.out (by kernel_rfl)) (fun _ _ _ h=>h) (Or.inl ⟨by rfl,?_⟩) ?_ ?_
              rotate_left
              ·intro w'
               go_simp
               with_reducible rfl
              rotate_left
              ·simp only [Act.put,s1_,s2_,s3_,i64_w,i32_w]
               rfl
              refine done_ (done_of HT_.out (by kernel_rfl)) ?_
              try go_wp2
              go_ret
              exact ⟨by first | rfl | (simp [errW_none,errW_some] <;> rfl) | (simp only [← hji40];first | rfl | (simp [errW_none,errW_some] <;> rfl)) | (simp [*,errW_none,errW_some] <;> rfl),hb_⟩
             ·replace c49:=Bool.eq_false_iff.mpr c49
              subst c49
              have H1 : (laws_FnShownChain.l0 k2 t7 t10 (wrap64 (x7_2 + 1)) t1 t4) = some r:=by rw [if_neg (show ¬ (false = true) by decide)] at H;exact H
              clear H
              have H:=H1
              clear H1
              have H':=a0_ H
              clear H
              obtain ⟨Ao54,co54,eo54⟩:=Kd.R_slice HO_6.out
              subst eo54
              try go_wp2
              have n0_:=a0_ (Kd.R_drew HO_6.out)
              have n1_:=a0_ (Kd.R_drew Z9.out)
              have n2_:=a0_ (Kd.R_drew Z10.out)
              have n3_:=a0_ (blk_drew BK8.out)
              have n4_:=a0_ (blk_drew BK9.out)
              have n5_:=a0_ (below_drew1 HB.out)
              clear HO_6
              clear Z9
              clear Z10
              clear BK8
              clear BK9
              clear HB
              have HO_6:=n0_
              have Z9:=n1_
              have Z10:=n2_
              have BK8:=n3_
              have BK9:=n4_
              have HB:=n5_
              clear n0_ n1_ n2_ n3_ n4_ n5_
              have p25 : 0 ≤ ((ji40) : Int):=of_decide_eq_true (by first | (with_reducible assumption) | assumption)
              have q25 : (ji40) < (t10.length : Int):=of_decide_eq_true (by first | (with_reducible assumption) | assumption)
              obtain ⟨ad25,e25,hx25_0⟩:=Kd.at_int (Kd.R_reads' HO_6.out).2.2 (ji40) p25 q25
              cases e25
              replace p25:=eq_true p25
              replace q25:=eq_true q25
              have p27 : 0 ≤ (x7_2 : Int):=of_decide_eq_true (by first | (with_reducible assumption) | assumption)
              have q27 : x7_2 < (t10.length : Int):=of_decide_eq_true (by first | (with_reducible assumption) | assumption)
              obtain ⟨ad27,e27,hx27_0⟩:=Kd.at_int (Kd.R_reads' HO_6.out).2.2 x7_2 p27 q27
              obtain rfl : ad25 = ad27:=(by injection e27)
              replace p27:=eq_true p27
              replace q27:=eq_true q27
              have p32 : 0 ≤ (x7_2 : Int):=of_decide_eq_true (by first | (with_reducible assumption) | assumption)
              have q32 : x7_2 < (t10.length : Int):=of_decide_eq_true (by first | (with_reducible assumption) | assumption)
              obtain ⟨ad32,e32,hx32_0⟩:=Kd.at_int (Kd.R_reads' HO_6.out).2.2 x7_2 p32 q32
              obtain rfl : ad25 = ad32:=(by injection e32)
              replace p32:=eq_true p32
              replace q32:=eq_true q32
              refine start_ (n:=23) (S:=fun w'=>w'.cell? ⟨gb8,0,none⟩ = some (.slice Ao9 t1.length co9) ∧ w'.cell? ⟨gb9,0,none⟩ = some (.slice Ao12 t4.length co12) ∧ w'.cell? (ad25.add ((ji40)).toNat) = some (.int .i64 (rd t10 (ji40))) ∧ w'.cell? (ad25.add (x7_2).toNat) = some (.int .i64 (rd t10 x7_2)) ∧ w'.cell? (ad25.add (x7_2).toNat) = some (.int .i64 (rd t10 x7_2))) (ds:=[]) #[false,false,false,false,false,false,false,false,false,false,false,false,false,false,false,false,false,false,false,false,false,false,false] (by kernel_rfl) rfl rfl ⟨(blk_cell BK8.out 0).trans rfl,(blk_cell BK9.out 0).trans rfl,hx25_0,hx27_0,hx32_0⟩ (fun hHeld=>?_);refine with_tabW laws_FnShownChain.tab10 laws_FnShownChain.bits10 (fun HT_ HW_=>?_)
              generalize wr.drew = w55 at HO_6 Z9 Z10 BK8 BK9 HB hx25_0 hx27_0 hx32_0 hHeld ⊢
              refine pure_ (i:=2) (N:=some 48) (v:=?_) (a':=?_) #[false,false,true,false,false,false,false,false,false,false,false,false,false,false,false,false,false,false,false,false,false,false,false] rfl rfl (any_of HT_.out (by kernel_rfl)) (fun _ _ _ h=>h) (Or.inl ⟨by rfl,?_⟩) ?_ ?_
              rotate_left
              ·intro w'
               go_simp
               with_reducible rfl
              rotate_left
              ·simp only [Act.put,s1_,s2_,s3_,i64_w,i32_w]
               rfl
              refine pure_ (i:=3) (N:=some 49) (v:=?_) (a':=?_) #[false,false,true,true,false,false,false,false,false,false,false,false,false,false,false,false,false,false,false,false,false,false,false] rfl rfl (any_of HT_.out (by kernel_rfl)) (fun _ _ _ h=>h) (Or.inl ⟨by rfl,?_⟩) ?_ ?_
              rotate_left
              ·intro w'
               go_simp
               with_reducible rfl
              rotate_left
              ·simp only [Act.put,s1_,s2_,s3_,i64_w,i32_w]
               rfl
              refine pure_ (i:=4) (N:=some 50) (v:=?_) (a':=?_) #[false,false,true,true,true,false,false,false,false,false,false,false,false,false,false,false,false,false,false,false,false,false,false] rfl rfl (any_of HT_.out (by kernel_rfl)) (fun _ _ _ h=>h) (Or.inl ⟨by rfl,?_⟩) ?_ ?_
              rotate_left
              ·intro w'
               go_simp
               with_reducible rfl
              rotate_left
              ·simp only [Act.put,s1_,s2_,s3_,i64_w,i32_w]
               rfl
              refine pure_ (i:=5) (N:=some 51) (v:=?_) (a':=?_) #[false,false,true,true,true,true,false,false,false,false,false,false,false,false,false,false,false,false,false,false,false,false,false] rfl rfl (any_of HT_.out (by kernel_rfl)) (fun _ _ _ h=>h) (Or.inl ⟨by rfl,?_⟩) ?_ ?_
              rotate_left
              ·intro w'
               go_simp
               with_reducible rfl
              rotate_left
              ·simp only [Act.put,s1_,s2_,s3_,i64_w,i32_w]
               rfl
              refine pure_ (i:=8) (N:=some 54) (v:=?_) (a':=?_) #[false,false,true,true,true,true,false,false,true,false,false,false,false,false,false,false,false,false,false,false,false,false,false] rfl rfl (any_of HT_.out (by kernel_rfl)) (fun _ _ _ h=>h) (Or.inl ⟨by rfl,?_⟩) ?_ ?_
              rotate_left
              ·intro w'
               go_simp
               with_reducible rfl
              rotate_left
              ·simp only [Act.put,s1_,s2_,s3_,i64_w,i32_w]
               rfl
              refine pure_ (i:=9) (N:=some 55) (v:=?_) (a':=?_) #[false,false,true,true,true,true,false,false,true,true,false,false,false,false,false,false,false,false,false,false,false,false,false] rfl rfl (any_of HT_.out (by kernel_rfl)) (fun _ _ _ h=>h) (Or.inl ⟨by rfl,?_⟩) ?_ ?_
              rotate_left
              ·intro w'
               go_simp
               with_reducible rfl
              rotate_left
              ·simp only [Act.put,s1_,s2_,s3_,i64_w,i32_w]
               rfl
              refine pure_ (i:=10) (N:=some 56) (v:=?_) (a':=?_) #[false,false,true,true,true,true,false,false,true,true,true,false,false,false,false,false,false,false,false,false,false,false,false] rfl rfl (any_of HT_.out (by kernel_rfl)) (fun _ _ _ h=>h) (Or.inl ⟨by rfl,?_⟩) ?_ ?_
              rotate_left
              ·intro w'
               go_simp
               with_reducible rfl
              rotate_left
              ·simp only [Act.put,s1_,s2_,s3_,i64_w,i32_w]
               rfl
              refine take_ (i:=0) (N:=some 46) (v:=?_) (a':=?_) #[true,false,true,true,true,true,false,false,true,true,true,false,false,false,false,false,false,false,false,false,false,false,false] rfl rfl (take_ofW HT_.out HW_.out (by kernel_rfl)) (fun _ _ _ h=>h) (Or.inl ⟨by rfl,?_⟩) hHeld ?_ ?_
              rotate_left
              ·rintro w' ⟨s0,s1,s2,s3,s4⟩
               go_simp
               with_reducible rfl
              rotate_left
              ·simp only [Act.put,s1_,s2_,s3_,i64_w,i32_w]
               rfl
              refine take_ (i:=1) (N:=some 47) (v:=?_) (a':=?_) #[true,true,true,true,true,true,false,false,true,true,true,false,false,false,false,false,false,false,false,false,false,false,false] rfl rfl (take_ofW HT_.out HW_.out (by kernel_rfl)) (fun _ _ _ h=>h) (Or.inl ⟨by rfl,?_⟩) hHeld ?_ ?_
              rotate_left
              ·rintro w' ⟨s0,s1,s2,s3,s4⟩
               go_simp
               with_reducible rfl
              rotate_left
              ·simp only [Act.put,s1_,s2_,s3_,i64_w,i32_w]
               rfl
              refine take_ (i:=6) (N:=some 52) (v:=?_) (a':=?_) #[true,true,true,true,true,true,true,false,true,true,true,false,false,false,false,false,false,false,false,false,false,false,false] rfl rfl (take_ofW HT_.out HW_.out (by kernel_rfl)) (fun _ _ _ h=>h) (Or.inl ⟨by rfl,?_⟩) hHeld ?_ ?_
              rotate_left
              ·rintro w' ⟨s0,s1,s2,s3,s4⟩
               go_simp
               with_reducible rfl
              rotate_left
              ·simp only [Act.put,s1_,s2_,s3_,i64_w,i32_w]
               rfl
              refine take_ (i:=11) (N:=some 57) (v:=?_) (a':=?_) #[true,true,true,true,true,true,true,false,true,true,true,true,false,false,false,false,false,false,false,false,false,false,false] rfl rfl (take_ofW HT_.out HW_.out (by kernel_rfl)) (fun _ _ _ h=>h) (Or.inl ⟨by rfl,?_⟩) hHeld ?_ ?_
              rotate_left
              ·rintro w' ⟨s0,s1,s2,s3,s4⟩
               go_simp
               with_reducible rfl
              rotate_left
              ·simp only [Act.put,s1_,s2_,s3_,i64_w,i32_w]
               rfl
              refine one_ (i:=7) (N:=some 53) #[true,true,true,true,true,true,true,true,true,true,true,true,false,false,false,false,false,false,false,false,false,false,false] rfl rfl (one_of HT_.out (by kernel_rfl)) (by decide) (fun K hK=>?_)
              refine goes_ Try.func14 (by kernel_rfl) rfl #[.agg #[.slice Ao9 t1.length co9],.agg #[.slice Ao12 t4.length co12],.int .i64 (rd t10 (ji40))] (by rfl) rfl rfl (by (try simp only [List.map_toArray,List.map_cons,List.map_nil]);first | done | (simp only [hji40];rfl) | rfl | (simp only [List.length_drop,List.length_take];rfl)) ?_
              with_reducible refine (impl_ShownNext.calls _ _ t1 _ _ t4 (rd t10 (ji40)) t26 _ ?side1 ?side2 ?side3 ?side4 A43.out).mono ?_
              (case side1=>exact cc_ (Kd.R_reads' Z9.out).2.2)
              (case side2=>exact (Kd.R_reads' Z9.out).2.1)
              (case side3=>exact cc_ (Kd.R_reads' Z10.out).2.2)
              (case side4=>exact (Kd.R_reads' Z10.out).2.1)
              rintro e w56 ⟨rfl,hb⟩
              have HS2_:=(hb.cell (World.block_lt_of_cell? _ _ (hHeld.2.2.1))).trans (hHeld.2.2.1)
              have HS3_:=(hb.cell (World.block_lt_of_cell? _ _ (hHeld.2.2.2.1))).trans (hHeld.2.2.2.1)
              have HS4_:=(hb.cell (World.block_lt_of_cell? _ _ (hHeld.2.2.2.2))).trans (hHeld.2.2.2.2)
              refine ⟨_,rfl,?_⟩
              have n0_:=rb_ HO_6 hb
              have n1_:=rb_ Z9 hb
              have n2_:=rb_ Z10 hb
              have n3_:=kb_ BK8 hb
              have n4_:=kb_ BK9 hb
              have n5_:=a0_ (below_step hb_ hb)
              clear HO_6
              clear Z9
              clear Z10
              clear BK8
              clear BK9
              clear HB
              have HO_6:=n0_
              have Z9:=n1_
              have Z10:=n2_
              have BK8:=n3_
              have BK9:=n4_
              have HB:=n5_
              clear n0_ n1_ n2_ n3_ n4_ n5_
              (try clear hb)
              (try clear hb2)
              (try clear hk)
              (try clear hi)
              have q57 : (x7_2 : Int) ≤ ((t10.length : Int) : Int):=of_decide_eq_true (by first | (with_reducible assumption) | assumption)
              obtain ⟨i057,hi057,_,hsz57,_⟩:=info_parts info3
              have hroom57 : t10.length ≤ co54:=(Kd.R_reads' HO_6.out).2.1
              have hC57 : Kd.C (Kd.int .i64) _ (some ad25) t10.length t10:=(Kd.R_reads' HO_6.out).2.2
              have hcut57:=cut_to (P:=Try.prog) 31 3 .i64 Try.underlying31 hi057 (some ad25) t10.length co54 x7_2 (of_decide_eq_true (by first | (with_reducible assumption) | assumption)) q57 hroom57
              have hr57:=Kd.C_take (m:=(x7_2 : Int).toNat) hC57 (by omega)
              have hy57 : y28.length = (x7_2 : Int).toNat:=(by rw [Ny28.out,List.length_take];omega)
              rw [← Ny28.out] at hr57
              rw [← hy57] at hcut57
              have HR31:=a0_ hr57
              have HC31:=a0_ (show y28.length ≤ co54 from by omega)
              clear hr57 hC57 hroom57 hi057 hsz57
              have KY57:=a0_ hy57
              clear hy57
              have KL57:=a0_ (show (x7_2 : Int).toNat ≤ t10.length from by omega)
              replace q57:=eq_true q57
              refine hK.out _ _ ⟨(blk_cell BK8.out 0).trans rfl,(blk_cell BK9.out 0).trans rfl,HS2_,HS3_,HS4_⟩ (fun hHeld=>?_)
              clear hK K
              refine norm_ (a':=?_) ?_ ?_
              rotate_left
              ·show Act.put _ (some 53) _ = _
               simp only [Act.put,s1_,s2_,s3_,i64_w,i32_w]
               rfl
              refine pure_ (i:=12) (N:=some 58) (v:=?_) (a':=?_) #[true,true,true,true,true,true,true,true,true,true,true,true,true,false,false,false,false,false,false,false,false,false,false] rfl rfl (any_of HT_.out (by kernel_rfl)) (fun _ _ _ h=>h) (Or.inl ⟨by rfl,?_⟩) ?_ ?_
              rotate_left
              ·intro w'
               go_simp
               with_reducible rfl
              rotate_left
              ·simp only [Act.put,s1_,s2_,s3_,i64_w,i32_w]
               rfl
              refine pure_ (i:=13) (N:=some 59) (v:=?_) (a':=?_) #[true,true,true,true,true,true,true,true,true,true,true,true,true,true,false,false,false,false,false,false,false,false,false] rfl rfl (any_of HT_.out (by kernel_rfl)) (fun _ _ _ h=>h) (Or.inl ⟨by rfl,?_⟩) ?_ ?_
              rotate_left
              ·intro w'
               go_simp
               with_reducible rfl
              rotate_left
              ·simp only [Act.put,s1_,s2_,s3_,i64_w,i32_w]
               rfl
              refine pure_ (i:=14) (N:=some 60) (v:=?_) (a':=?_) #[true,true,true,true,true,true,true,true,true,true,true,true,true,true,true,false,false,false,false,false,false,false,false] rfl rfl (any_of HT_.out (by kernel_rfl)) (fun _ _ _ h=>h) (Or.inl ⟨by rfl,?_⟩) ?_ ?_
              rotate_left
              ·intro w'
               go_simp
               with_reducible rfl
              rotate_left
              ·simp only [Act.put,s1_,s2_,s3_,i64_w,i32_w]
               rfl
              refine pure_ (i:=15) (N:=some 61) (v:=?_) (a':=?_) #[true,true,true,true,true,true,true,true,true,true,true,true,true,true,true,true,false,false,false,false,false,false,false] rfl rfl (any_of HT_.out (by kernel_rfl)) (fun _ _ _ h=>h) (Or.inl ⟨by rfl,?_⟩) ?_ ?_
              rotate_left
              ·intro w'
               go_simp
               with_reducible rfl
              rotate_left
              ·simp only [Act.put,s1_,s2_,s3_,i64_w,i32_w]
               rfl
              refine pure_ (i:=16) (N:=some 62) (v:=?_) (a':=?_) #[true,true,true,true,true,true,true,true,true,true,true,true,true,true,true,true,true,false,false,false,false,false,false] rfl rfl (any_of HT_.out (by kernel_rfl)) (fun _ _ _ h=>h) (Or.inl ⟨by rfl,?_⟩) ?_ ?_
              rotate_left
              ·intro w'
               go_simp
               with_reducible rfl
              rotate_left
              ·simp only [Act.put,s1_,s2_,s3_,i64_w,i32_w]
               rfl
              refine pure_ (i:=17) (N:=some 63) (v:=?_) (a':=?_) #[true,true,true,true,true,true,true,true,true,true,true,true,true,true,true,true,true,true,false,false,false,false,false] rfl rfl (any_of HT_.out (by kernel_rfl)) (fun _ _ _ h=>h) (Or.inl ⟨by rfl,?_⟩) ?_ ?_
              rotate_left
              ·intro w'
               go_simp
               with_reducible rfl
              rotate_left
              ·simp only [Act.put,s1_,s2_,s3_,i64_w,i32_w]
               rfl
              refine pure_ (i:=18) (N:=some 64) (v:=?_) (a':=?_) #[true,true,true,true,true,true,true,true,true,true,true,true,true,true,true,true,true,true,true,false,false,false,false] rfl rfl (any_of HT_.out (by kernel_rfl)) (fun _ _ _ h=>h) (Or.inl ⟨by rfl,?_⟩) ?_ ?_
              rotate_left
              ·intro w'
               go_simp
               with_reducible rfl
              rotate_left
              ·simp only [Act.put,s1_,s2_,s3_,i64_w,i32_w]
               rfl
              refine pure_ (i:=19) (N:=some 65) (v:=?_) (a':=?_) #[true,true,true,true,true,true,true,true,true,true,true,true,true,true,true,true,true,true,true,true,false,false,false] rfl rfl (any_of HT_.out (by kernel_rfl)) (fun _ _ _ h=>h) (Or.inl ⟨by rfl,?_⟩) ?_ ?_
              rotate_left
              ·intro w'
               go_simp
               with_reducible rfl
              rotate_left
              ·simp only [Act.put,s1_,s2_,s3_,i64_w,i32_w]
               rfl
              refine take_ (i:=20) (N:=some 66) (v:=?_) (a':=?_) #[true,true,true,true,true,true,true,true,true,true,true,true,true,true,true,true,true,true,true,true,true,false,false] rfl rfl (take_ofW HT_.out HW_.out (by kernel_rfl)) (fun _ _ _ h=>h) (Or.inl ⟨by rfl,?_⟩) hHeld ?_ ?_
              rotate_left
              ·rintro w' ⟨s0,s1,s2,s3,s4⟩
               go_simp
               with_reducible rfl
              rotate_left
              ·simp only [Act.put,s1_,s2_,s3_,i64_w,i32_w]
               rfl
              refine one_ (i:=21) (N:=some 67) #[true,true,true,true,true,true,true,true,true,true,true,true,true,true,true,true,true,true,true,true,true,true,false] rfl rfl (one_of HT_.out (by kernel_rfl)) (by decide) (fun K hK=>?_)
              refine goes_ Try.func15 (by kernel_rfl) rfl #[.slice (some ad25) y28.length co54,.int .i64 (rd t10 x7_2)] (by rfl) rfl rfl lm_ ?_
              with_reducible refine (laws_isIn.calls k2 _ _ y28 (rd t10 x7_2) false _ ?side1 ?side2 A48.out).mono ?_
              (case side1=>repeat (first | exact (by repeat (first | (with_reducible exact HR31.out) | (with_reducible refine Kd.C_alloc ?_ _) | (with_reducible refine Kd.C_drewN ?_ _) | (with_reducible refine Kd.C_drew ?_) | exact HR31.out)) | (with_reducible refine Kd.C_alloc ?_ _) | (with_reducible refine Kd.C_drewN ?_ _) | (with_reducible refine Kd.C_drew ?_)))
              (case side2=>exact HC31.out)
              rintro e w' ⟨rfl,⟨nd,rfl⟩⟩
              refine ⟨_,rfl,?_⟩
              refine hK.out _ _ ⟨(blk_cell BK8.out 0).trans rfl,(blk_cell BK9.out 0).trans rfl,hHeld.2.2.1,hHeld.2.2.2.1,hHeld.2.2.2.2⟩ (fun hHeld=>?_)
              clear hK K
              refine norm_ (a':=?_) ?_ ?_
              rotate_left
              ·show Act.put _ (some 67) _ = _
               simp only [Act.put,s1_,s2_,s3_,i64_w,i32_w]
               rfl
              refine pure_ (i:=22) (N:=some 68) (v:=?_) (a':=?_) #[true,true,true,true,true,true,true,true,true,true,true,true,true,true,true,true,true,true,true,true,true,true,true] rfl rfl (any_of HT_.out (by kernel_rfl)) (fun _ _ _ h=>h) (Or.inl ⟨by rfl,?_⟩) ?_ ?_
              rotate_left
              ·intro w'
               go_simp
               with_reducible rfl
              rotate_left
              ·simp only [Act.put,s1_,s2_,s3_,i64_w,i32_w]
               rfl
              refine done_ (done_of HT_.out (by kernel_rfl)) ?_
              try go_wp2
              go_roundg k2
              case measure=>have:=HJ4.out;have:=HK2.out;omega
              case rel=>exact ⟨(wrap64 (x7_2 + 1)),(by first | rfl | (simp;done) | (simp [*];done)),H',⟨by have:=HJ4.out;have:=HK2.out;omega⟩,⟨by (with_reducible repeat (first | apply Kd.R_alloc | apply Kd.R_drewN | apply Kd.R_drew));exact HO_6.out⟩,⟨by (with_reducible repeat (first | apply Kd.R_alloc | apply Kd.R_drewN | apply Kd.R_drew));exact Z9.out⟩,⟨by (with_reducible repeat (first | apply Kd.R_alloc | apply Kd.R_drewN | apply Kd.R_drew));exact Z10.out⟩,⟨by (with_reducible repeat (first | refine blk_drewN ?_ _ | refine blk_drew ?_ | refine blk_alloc ?_ _));exact BK8.out⟩,⟨by (with_reducible repeat (first | refine blk_drewN ?_ _ | refine blk_drew ?_ | refine blk_alloc ?_ _));exact BK9.out⟩,⟨hb_⟩⟩
            ·rw [if_neg c47] at H
             exact absurd H (by simp)
           ·rw [if_neg c45] at H
            have c45b0 : (t26 == (rd t10 x7_2)) = false:=beq_eq_false_iff_ne.mpr c45
            have c45b1 : (t26 != (rd t10 x7_2)) = true:=bne_iff_ne.mpr c45
            obtain rfl:=Option.some.inj H
            obtain ⟨Ao58,co58,eo58⟩:=Kd.R_slice HO_6.out
            subst eo58
            try go_wp2
            have n0_:=a0_ (Kd.R_drew HO_6.out)
            have n1_:=a0_ (Kd.R_drew Z9.out)
            have n2_:=a0_ (Kd.R_drew Z10.out)
            have n3_:=a0_ (blk_drew BK8.out)
            have n4_:=a0_ (blk_drew BK9.out)
            have n5_:=a0_ (below_drew1 HB.out)
            clear HO_6
            clear Z9
            clear Z10
            clear BK8
            clear BK9
            clear HB
            have HO_6:=n0_
            have Z9:=n1_
            have Z10:=n2_
            have BK8:=n3_
            have BK9:=n4_
            have HB:=n5_
            clear n0_ n1_ n2_ n3_ n4_ n5_
            have p25 : 0 ≤ ((ji40) : Int):=of_decide_eq_true (by first | (with_reducible assumption) | assumption)
            have q25 : (ji40) < (t10.length : Int):=of_decide_eq_true (by first | (with_reducible assumption) | assumption)
            obtain ⟨ad25,e25,hx25_0⟩:=Kd.at_int (Kd.R_reads' HO_6.out).2.2 (ji40) p25 q25
            cases e25
            replace p25:=eq_true p25
            replace q25:=eq_true q25
            have p27 : 0 ≤ (x7_2 : Int):=of_decide_eq_true (by first | (with_reducible assumption) | assumption)
            have q27 : x7_2 < (t10.length : Int):=of_decide_eq_true (by first | (with_reducible assumption) | assumption)
            obtain ⟨ad27,e27,hx27_0⟩:=Kd.at_int (Kd.R_reads' HO_6.out).2.2 x7_2 p27 q27
            obtain rfl : ad25 = ad27:=(by injection e27)
            replace p27:=eq_true p27
            replace q27:=eq_true q27
            refine start_ (n:=23) (S:=fun w'=>w'.cell? ⟨gb8,0,none⟩ = some (.slice Ao9 t1.length co9) ∧ w'.cell? ⟨gb9,0,none⟩ = some (.slice Ao12 t4.length co12) ∧ w'.cell? (ad25.add ((ji40)).toNat) = some (.int .i64 (rd t10 (ji40))) ∧ w'.cell? (ad25.add (x7_2).toNat) = some (.int .i64 (rd t10 x7_2))) (ds:=[]) #[false,false,false,false,false,false,false,false,false,false,false,false,false,false,false,false,false,false,false,false,false,false,false] (by kernel_rfl) rfl rfl ⟨(blk_cell BK8.out 0).trans rfl,(blk_cell BK9.out 0).trans rfl,hx25_0,hx27_0⟩ (fun hHeld=>?_);refine with_tabW laws_FnShownChain.tab10 laws_FnShownChain.bits10 (fun HT_ HW_=>?_)
            generalize wr.drew = w59 at HO_6 Z9 Z10 BK8 BK9 HB hx25_0 hx27_0 hHeld ⊢
            refine pure_ (i:=2) (N:=some 48) (v:=?_) (a':=?_) #[false,false,true,false,false,false,false,false,false,false,false,false,false,false,false,false,false,false,false,false,false,false,false] rfl rfl (any_of HT_.out (by kernel_rfl)) (fun _ _ _ h=>h) (Or.inl ⟨by rfl,?_⟩) ?_ ?_
            rotate_left
            ·intro w'
             go_simp
             with_reducible rfl
            rotate_left
            ·simp only [Act.put,s1_,s2_,s3_,i64_w,i32_w]
             rfl
            refine pure_ (i:=3) (N:=some 49) (v:=?_) (a':=?_) #[false,false,true,true,false,false,false,false,false,false,false,false,false,false,false,false,false,false,false,false,false,false,false] rfl rfl (any_of HT_.out (by kernel_rfl)) (fun _ _ _ h=>h) (Or.inl ⟨by rfl,?_⟩) ?_ ?_
            rotate_left
            ·intro w'
             go_simp
             with_reducible rfl
            rotate_left
            ·simp only [Act.put,s1_,s2_,s3_,i64_w,i32_w]
             rfl
            refine pure_ (i:=4) (N:=some 50) (v:=?_) (a':=?_) #[false,false,true,true,true,false,false,false,false,false,false,false,false,false,false,false,false,false,false,false,false,false,false] rfl rfl (any_of HT_.out (by kernel_rfl)) (fun _ _ _ h=>h) (Or.inl ⟨by rfl,?_⟩) ?_ ?_
            rotate_left
            ·intro w'
             go_simp
             with_reducible rfl
            rotate_left
            ·simp only [Act.put,s1_,s2_,s3_,i64_w,i32_w]
             rfl
            refine pure_ (i:=5) (N:=some 51) (v:=?_) (a':=?_) #[false,false,true,true,true,true,false,false,false,false,false,false,false,false,false,false,false,false,false,false,false,false,false] rfl rfl (any_of HT_.out (by kernel_rfl)) (fun _ _ _ h=>h) (Or.inl ⟨by rfl,?_⟩) ?_ ?_
            rotate_left
            ·intro w'
             go_simp
             with_reducible rfl
            rotate_left
            ·simp only [Act.put,s1_,s2_,s3_,i64_w,i32_w]
             rfl
            refine pure_ (i:=8) (N:=some 54) (v:=?_) (a':=?_) #[false,false,true,true,true,true,false,false,true,false,false,false,false,false,false,false,false,false,false,false,false,false,false] rfl rfl (any_of HT_.out (by kernel_rfl)) (fun _ _ _ h=>h) (Or.inl ⟨by rfl,?_⟩) ?_ ?_
            rotate_left
            ·intro w'
             go_simp
             with_reducible rfl
            rotate_left
            ·simp only [Act.put,s1_,s2_,s3_,i64_w,i32_w]
             rfl
            refine pure_ (i:=9) (N:=some 55) (v:=?_) (a':=?_) #[false,false,true,true,true,true,false,false,true,true,false,false,false,false,false,false,false,false,false,false,false,false,false] rfl rfl (any_of HT_.out (by kernel_rfl)) (fun _ _ _ h=>h) (Or.inl ⟨by rfl,?_⟩) ?_ ?_
            rotate_left
            ·intro w'
             go_simp
             with_reducible rfl
            rotate_left
            ·simp only [Act.put,s1_,s2_,s3_,i64_w,i32_w]
             rfl
            refine pure_ (i:=10) (N:=some 56) (v:=?_) (a':=?_) #[false,false,true,true,true,true,false,false,true,true,true,false,false,false,false,false,false,false,false,false,false,false,false] rfl rfl (any_of HT_.out (by kernel_rfl)) (fun _ _ _ h=>h) (Or.inl ⟨by rfl,?_⟩) ?_ ?_
            rotate_left
            ·intro w'
             go_simp
             with_reducible rfl
            rotate_left
            ·simp only [Act.put,s1_,s2_,s3_,i64_w,i32_w]
             rfl
            refine take_ (i:=0) (N:=some 46) (v:=?_) (a':=?_) #[true,false,true,true,true,true,false,false,true,true,true,false,false,false,false,false,false,false,false,false,false,false,false] rfl rfl (take_ofW HT_.out HW_.out (by kernel_rfl)) (fun _ _ _ h=>h) (Or.inl ⟨by rfl,?_⟩) hHeld ?_ ?_
            rotate_left
            ·rintro w' ⟨s0,s1,s2,s3⟩
             go_simp
             with_reducible rfl
            rotate_left
            ·simp only [Act.put,s1_,s2_,s3_,i64_w,i32_w]
             rfl
            refine take_ (i:=1) (N:=some 47) (v:=?_) (a':=?_) #[true,true,true,true,true,true,false,false,true,true,true,false,false,false,false,false,false,false,false,false,false,false,false] rfl rfl (take_ofW HT_.out HW_.out (by kernel_rfl)) (fun _ _ _ h=>h) (Or.inl ⟨by rfl,?_⟩) hHeld ?_ ?_
            rotate_left
            ·rintro w' ⟨s0,s1,s2,s3⟩
             go_simp
             with_reducible rfl
            rotate_left
            ·simp only [Act.put,s1_,s2_,s3_,i64_w,i32_w]
             rfl
            refine take_ (i:=6) (N:=some 52) (v:=?_) (a':=?_) #[true,true,true,true,true,true,true,false,true,true,true,false,false,false,false,false,false,false,false,false,false,false,false] rfl rfl (take_ofW HT_.out HW_.out (by kernel_rfl)) (fun _ _ _ h=>h) (Or.inl ⟨by rfl,?_⟩) hHeld ?_ ?_
            rotate_left
            ·rintro w' ⟨s0,s1,s2,s3⟩
             go_simp
             with_reducible rfl
            rotate_left
            ·simp only [Act.put,s1_,s2_,s3_,i64_w,i32_w]
             rfl
            refine take_ (i:=11) (N:=some 57) (v:=?_) (a':=?_) #[true,true,true,true,true,true,true,false,true,true,true,true,false,false,false,false,false,false,false,false,false,false,false] rfl rfl (take_ofW HT_.out HW_.out (by kernel_rfl)) (fun _ _ _ h=>h) (Or.inl ⟨by rfl,?_⟩) hHeld ?_ ?_
            rotate_left
            ·rintro w' ⟨s0,s1,s2,s3⟩
             go_simp
             with_reducible rfl
            rotate_left
            ·simp only [Act.put,s1_,s2_,s3_,i64_w,i32_w]
             rfl
            refine one_ (i:=7) (N:=some 53) #[true,true,true,true,true,true,true,true,true,true,true,true,false,false,false,false,false,false,false,false,false,false,false] rfl rfl (one_of HT_.out (by kernel_rfl)) (by decide) (fun K hK=>?_)
            refine goes_ Try.func14 (by kernel_rfl) rfl #[.agg #[.slice Ao9 t1.length co9],.agg #[.slice Ao12 t4.length co12],.int .i64 (rd t10 (ji40))] (by rfl) rfl rfl (by (try simp only [List.map_toArray,List.map_cons,List.map_nil]);first | done | (simp only [hji40];rfl) | rfl | (simp only [List.length_drop,List.length_take];rfl)) ?_
            with_reducible refine (impl_ShownNext.calls _ _ t1 _ _ t4 (rd t10 (ji40)) t26 _ ?side1 ?side2 ?side3 ?side4 A43.out).mono ?_
            (case side1=>exact cc_ (Kd.R_reads' Z9.out).2.2)
            (case side2=>exact (Kd.R_reads' Z9.out).2.1)
            (case side3=>exact cc_ (Kd.R_reads' Z10.out).2.2)
            (case side4=>exact (Kd.R_reads' Z10.out).2.1)
            rintro e w60 ⟨rfl,hb⟩
            have HS2_:=(hb.cell (World.block_lt_of_cell? _ _ (hHeld.2.2.1))).trans (hHeld.2.2.1)
            have HS3_:=(hb.cell (World.block_lt_of_cell? _ _ (hHeld.2.2.2))).trans (hHeld.2.2.2)
            refine ⟨_,rfl,?_⟩
            have n0_:=rb_ HO_6 hb
            have n1_:=rb_ Z9 hb
            have n2_:=rb_ Z10 hb
            have n3_:=kb_ BK8 hb
            have n4_:=kb_ BK9 hb
            have n5_:=a0_ (below_step hb_ hb)
            clear HO_6
            clear Z9
            clear Z10
            clear BK8
            clear BK9
            clear HB
            have HO_6:=n0_
            have Z9:=n1_
            have Z10:=n2_
            have BK8:=n3_
            have BK9:=n4_
            have HB:=n5_
            clear n0_ n1_ n2_ n3_ n4_ n5_
            (try clear hb)
            (try clear hb2)
            (try clear hk)
            (try clear hi)
            refine hK.out _ _ ⟨(blk_cell BK8.out 0).trans rfl,(blk_cell BK9.out 0).trans rfl,HS2_,HS3_⟩ (fun hHeld=>?_)
            clear hK K
            refine norm_ (a':=?_) ?_ ?_
            rotate_left
            ·show Act.put _ (some 53) _ = _
             simp only [Act.put,s1_,s2_,s3_,i64_w,i32_w]
             rfl
            refine pure_ (i:=12) (N:=some 58) (v:=?_) (a':=?_) #[true,true,true,true,true,true,true,true,true,true,true,true,true,false,false,false,false,false,false,false,false,false,false] rfl rfl (any_of HT_.out (by kernel_rfl)) (fun _ _ _ h=>h) (Or.inl ⟨by rfl,?_⟩) ?_ ?_
            rotate_left
            ·intro w'
             go_simp
             with_reducible rfl
            rotate_left
            ·simp only [Act.put,s1_,s2_,s3_,i64_w,i32_w]
             rfl
            refine pure_ (i:=13) (N:=some 59) (v:=?_) (a':=?_) #[true,true,true,true,true,true,true,true,true,true,true,true,true,true,false,false,false,false,false,false,false,false,false] rfl rfl (any_of HT_.out (by kernel_rfl)) (fun _ _ _ h=>h) (Or.inl ⟨by rfl,?_⟩) ?_ ?_
            rotate_left
            ·intro w'
             go_simp
             with_reducible rfl
            rotate_left
            ·simp only [Act.put,s1_,s2_,s3_,i64_w,i32_w]
             rfl
            refine pure_ (i:=14) (N:=some 60) (v:=undef) (a':=?_) #[true,true,true,true,true,true,true,true,true,true,true,true,true,true,true,false,false,false,false,false,false,false,false] rfl rfl (any_of HT_.out (by kernel_rfl)) (fun _ _ _ h=>h) (Or.inr ⟨by rfl,rfl⟩) ?_ ?_
            rotate_left
            ·simp only [Act.put,s1_,s2_,s3_,i64_w,i32_w]
             rfl
            refine pure_ (i:=15) (N:=some 61) (v:=undef) (a':=?_) #[true,true,true,true,true,true,true,true,true,true,true,true,true,true,true,true,false,false,false,false,false,false,false] rfl rfl (any_of HT_.out (by kernel_rfl)) (fun _ _ _ h=>h) (Or.inr ⟨by rfl,rfl⟩) ?_ ?_
            rotate_left
            ·simp only [Act.put,s1_,s2_,s3_,i64_w,i32_w]
             rfl
            refine pure_ (i:=16) (N:=some 62) (v:=undef) (a':=?_) #[true,true,true,true,true,true,true,true,true,true,true,true,true,true,true,true,true,false,false,false,false,false,false] rfl rfl (any_of HT_.out (by kernel_rfl)) (fun _ _ _ h=>h) (Or.inr ⟨by rfl,rfl⟩) ?_ ?_
            rotate_left
            ·simp only [Act.put,s1_,s2_,s3_,i64_w,i32_w]
             rfl
            refine pure_ (i:=17) (N:=some 63) (v:=undef) (a':=?_) #[true,true,true,true,true,true,true,true,true,true,true,true,true,true,true,true,true,true,false,false,false,false,false] rfl rfl (any_of HT_.out (by kernel_rfl)) (fun _ _ _ h=>h) (Or.inr ⟨by rfl,rfl⟩) ?_ ?_
            rotate_left
            ·simp only [Act.put,s1_,s2_,s3_,i64_w,i32_w]
             rfl
            refine pure_ (i:=18) (N:=some 64) (v:=undef) (a':=?_) #[true,true,true,true,true,true,true,true,true,true,true,true,true,true,true,true,true,true,true,false,false,false,false] rfl rfl (any_of HT_.out (by kernel_rfl)) (fun _ _ _ h=>h) (Or.inr ⟨by rfl,rfl⟩) ?_ ?_
            rotate_left
            ·simp only [Act.put,s1_,s2_,s3_,i64_w,i32_w]
             rfl
            refine pure_ (i:=19) (N:=some 65) (v:=undef) (a':=?_) #[true,true,true,true,true,true,true,true,true,true,true,true,true,true,true,true,true,true,true,true,false,false,false] rfl rfl (any_of HT_.out (by kernel_rfl)) (fun _ _ _ h=>h) (Or.inr ⟨by rfl,rfl⟩) ?_ ?_
            rotate_left
            ·simp only [Act.put,s1_,s2_,s3_,i64_w,i32_w]
             rfl
            refine pure_ (i:=20) (N:=some 66) (v:=undef) (a':=?_) #[true,true,true,true,true,true,true,true,true,true,true,true,true,true,true,true,true,true,true,true,true,false,false] rfl rfl (any_of HT_.out (by kernel_rfl)) (fun _ _ _ h=>h) (Or.inr ⟨by rfl,rfl⟩) ?_ ?_
            rotate_left
            ·simp only [Act.put,s1_,s2_,s3_,i64_w,i32_w]
             rfl
            refine pure_ (i:=21) (N:=some 67) (v:=undef) (a':=?_) #[true,true,true,true,true,true,true,true,true,true,true,true,true,true,true,true,true,true,true,true,true,true,false] rfl rfl (any_of HT_.out (by kernel_rfl)) (fun _ _ _ h=>h) (Or.inr ⟨by rfl,rfl⟩) ?_ ?_
            rotate_left
            ·simp only [Act.put,s1_,s2_,s3_,i64_w,i32_w]
             rfl
            refine pure_ (i:=22) (N:=some 68) (v:=?_) (a':=?_) #[true,true,true,true,true,true,true,true,true,true,true,true,true,true,true,true,true,true,true,true,true,true,true] rfl rfl (any_of HT_.out (by kernel_rfl)) (fun _ _ _ h=>h) (Or.inl ⟨by rfl,?_⟩) ?_ ?_
            rotate_left
            ·intro w'
             go_simp
             with_reducible rfl
            rotate_left
            ·simp only [Act.put,s1_,s2_,s3_,i64_w,i32_w]
             rfl
            refine done_ (done_of HT_.out (by kernel_rfl)) ?_
            try go_wp2
            go_ret
            exact ⟨by first | rfl | (simp [errW_none,errW_some] <;> rfl) | (simp only [← hji40];first | rfl | (simp [errW_none,errW_some] <;> rfl)) | (simp [*,errW_none,errW_some] <;> rfl),hb_⟩
          ·rw [if_neg c44] at H
           exact absurd H (by simp)
         ·rw [if_neg c42] at H
          exact absurd H (by simp)
        ·rw [if_neg c41] at H
         exact absurd H (by simp)
       ·rw [if_neg c39] at H
        have c39b0 : decide (x7_2 < (t10.length : Int)) = false:=decide_eq_false c39
        clear c39
        obtain ⟨ji61,hji61⟩ : ∃ j_ : Int,(wrap64 ((t10.length : Int) - 1)) = j_:=⟨_,rfl⟩
        replace H : (if 0 ≤ (ji61) then (if (ji61) < (t10.length : Int) then ((impl_ShownNext.f t1 t4 (rd t10 (ji61))).bind fun t22=>(if 0 < (t10.length : Int) then (if (rd t10 0) = t7 then (if t22 = (-1) then (some true) else ((laws_isIn.f k2 t10 t22).bind fun t24=>(some t24))) else (some false)) else (none))) else (none)) else (none)) = some r:=by first | (rw [hji61] at H;exact H) | (simp only [hji61] at H ⊢;exact H)
        have hji61w : (IntKind.i64.wrap ((t10.length : Int) - 1)) = ji61:=(i64_w _).trans hji61
        by_cases c62 : 0 ≤ (ji61)
        ·rw [if_pos c62] at H
         have c62b0 : decide (0 ≤ (ji61)) = true:=decide_eq_true c62
         clear c62
         by_cases c63 : (ji61) < (t10.length : Int)
         ·rw [if_pos c63] at H
          have c63b0 : decide ((ji61) < (t10.length : Int)) = true:=decide_eq_true c63
          clear c63
          replace H:=Option.bind_eq_some_iff.mp H
          obtain ⟨t22,A640,H⟩:=H
          try dsimp only at H
          have A64:=a0_ A640
          clear A640
          by_cases c65 : 0 < (t10.length : Int)
          ·rw [if_pos c65] at H
           have c65b0 : decide (0 < (t10.length : Int)) = true:=decide_eq_true c65
           have c65b1 : decide (0 < t10.length) = true:=decide_eq_true (by omega)
           clear c65
           by_cases c66 : (rd t10 0) = t7
           ·rw [if_pos c66] at H
            have c66b0 : ((rd t10 0) == t7) = true:=beq_iff_eq.mpr c66
            have c66b1 : ((rd t10 0) != t7) = false:=bne_eq_false_iff_eq.mpr c66
            clear c66
            by_cases c67 : t22 = (-1)
            ·rw [if_pos c67] at H
             have c67b0 : (t22 == (-1)) = true:=beq_iff_eq.mpr c67
             have c67b1 : (t22 != (-1)) = false:=bne_eq_false_iff_eq.mpr c67
             clear c67
             obtain rfl:=Option.some.inj H
             obtain ⟨Ao68,co68,eo68⟩:=Kd.R_slice HO_6.out
             subst eo68
             try go_wp2
             have n0_:=a0_ (Kd.R_drew HO_6.out)
             have n1_:=a0_ (Kd.R_drew Z9.out)
             have n2_:=a0_ (Kd.R_drew Z10.out)
             have n3_:=a0_ (blk_drew BK8.out)
             have n4_:=a0_ (blk_drew BK9.out)
             have n5_:=a0_ (below_drew1 HB.out)
             clear HO_6
             clear Z9
             clear Z10
             clear BK8
             clear BK9
             clear HB
             have HO_6:=n0_
             have Z9:=n1_
             have Z10:=n2_
             have BK8:=n3_
             have BK9:=n4_
             have HB:=n5_
             clear n0_ n1_ n2_ n3_ n4_ n5_
             have p21 : 0 ≤ ((ji61) : Int):=of_decide_eq_true (by first | (with_reducible assumption) | assumption)
             have q21 : (ji61) < (t10.length : Int):=of_decide_eq_true (by first | (with_reducible assumption) | assumption)
             obtain ⟨ad21,e21,hx21_0⟩:=Kd.at_int (Kd.R_reads' HO_6.out).2.2 (ji61) p21 q21
             cases e21
             replace p21:=eq_true p21
             replace q21:=eq_true q21
             refine start_ (n:=10) (S:=fun w'=>w'.cell? ⟨gb8,0,none⟩ = some (.slice Ao9 t1.length co9) ∧ w'.cell? ⟨gb9,0,none⟩ = some (.slice Ao12 t4.length co12) ∧ w'.cell? (ad21.add ((ji61)).toNat) = some (.int .i64 (rd t10 (ji61)))) (ds:=[]) #[false,false,false,false,false,false,false,false,false,false] (by kernel_rfl) rfl rfl ⟨(blk_cell BK8.out 0).trans rfl,(blk_cell BK9.out 0).trans rfl,hx21_0⟩ (fun hHeld=>?_);refine with_tabW laws_FnShownChain.tab12 laws_FnShownChain.bits12 (fun HT_ HW_=>?_)
             generalize wr.drew = w69 at HO_6 Z9 Z10 BK8 BK9 HB hx21_0 hHeld ⊢
             refine pure_ (i:=2) (N:=some 71) (v:=?_) (a':=?_) #[false,false,true,false,false,false,false,false,false,false] rfl rfl (any_of HT_.out (by kernel_rfl)) (fun _ _ _ h=>h) (Or.inl ⟨by rfl,?_⟩) ?_ ?_
             rotate_left
             ·intro w'
              go_simp
              with_reducible rfl
             rotate_left
             ·simp only [Act.put,s1_,s2_,s3_,i64_w,i32_w]
              rfl
             refine pure_ (i:=3) (N:=some 72) (v:=?_) (a':=?_) #[false,false,true,true,false,false,false,false,false,false] rfl rfl (any_of HT_.out (by kernel_rfl)) (fun _ _ _ h=>h) (Or.inl ⟨by rfl,?_⟩) ?_ ?_
             rotate_left
             ·intro w'
              go_simp
              with_reducible rfl
             rotate_left
             ·simp only [Act.put,s1_,s2_,s3_,i64_w,i32_w]
              rfl
             refine pure_ (i:=4) (N:=some 73) (v:=?_) (a':=?_) #[false,false,true,true,true,false,false,false,false,false] rfl rfl (any_of HT_.out (by kernel_rfl)) (fun _ _ _ h=>h) (Or.inl ⟨by rfl,?_⟩) ?_ ?_
             rotate_left
             ·intro w'
              go_simp
              with_reducible rfl
             rotate_left
             ·simp only [Act.put,s1_,s2_,s3_,i64_w,i32_w]
              rfl
             refine pure_ (i:=5) (N:=some 74) (v:=?_) (a':=?_) #[false,false,true,true,true,true,false,false,false,false] rfl rfl (any_of HT_.out (by kernel_rfl)) (fun _ _ _ h=>h) (Or.inl ⟨by rfl,?_⟩) ?_ ?_
             rotate_left
             ·intro w'
              go_simp
              with_reducible rfl
             rotate_left
             ·simp only [Act.put,s1_,s2_,s3_,i64_w,i32_w]
              rfl
             refine pure_ (i:=6) (N:=some 75) (v:=?_) (a':=?_) #[false,false,true,true,true,true,true,false,false,false] rfl rfl (any_of HT_.out (by kernel_rfl)) (fun _ _ _ h=>h) (Or.inl ⟨by rfl,?_⟩) ?_ ?_
             rotate_left
             ·intro w'
              go_simp
              with_reducible rfl
             rotate_left
             ·simp only [Act.put,s1_,s2_,s3_,i64_w,i32_w]
              rfl
             refine take_ (i:=0) (N:=some 69) (v:=?_) (a':=?_) #[true,false,true,true,true,true,true,false,false,false] rfl rfl (take_ofW HT_.out HW_.out (by kernel_rfl)) (fun _ _ _ h=>h) (Or.inl ⟨by rfl,?_⟩) hHeld ?_ ?_
             rotate_left
             ·rintro w' ⟨s0,s1,s2⟩
              go_simp
              with_reducible rfl
             rotate_left
             ·simp only [Act.put,s1_,s2_,s3_,i64_w,i32_w]
              rfl
             refine take_ (i:=1) (N:=some 70) (v:=?_) (a':=?_) #[true,true,true,true,true,true,true,false,false,false] rfl rfl (take_ofW HT_.out HW_.out (by kernel_rfl)) (fun _ _ _ h=>h) (Or.inl ⟨by rfl,?_⟩) hHeld ?_ ?_
             rotate_left
             ·rintro w' ⟨s0,s1,s2⟩
              go_simp
              with_reducible rfl
             rotate_left
             ·simp only [Act.put,s1_,s2_,s3_,i64_w,i32_w]
              rfl
             refine take_ (i:=7) (N:=some 76) (v:=?_) (a':=?_) #[true,true,true,true,true,true,true,true,false,false] rfl rfl (take_ofW HT_.out HW_.out (by kernel_rfl)) (fun _ _ _ h=>h) (Or.inl ⟨by rfl,?_⟩) hHeld ?_ ?_
             rotate_left
             ·rintro w' ⟨s0,s1,s2⟩
              go_simp
              with_reducible rfl
             rotate_left
             ·simp only [Act.put,s1_,s2_,s3_,i64_w,i32_w]
              rfl
             refine one_ (i:=8) (N:=some 77) #[true,true,true,true,true,true,true,true,true,false] rfl rfl (one_of HT_.out (by kernel_rfl)) (by decide) (fun K hK=>?_)
             refine goes_ Try.func14 (by kernel_rfl) rfl #[.agg #[.slice Ao9 t1.length co9],.agg #[.slice Ao12 t4.length co12],.int .i64 (rd t10 (ji61))] (by rfl) rfl rfl (by (try simp only [List.map_toArray,List.map_cons,List.map_nil]);first | done | (simp only [hji61];rfl) | rfl | (simp only [List.length_drop,List.length_take];rfl)) ?_
             with_reducible refine (impl_ShownNext.calls _ _ t1 _ _ t4 (rd t10 (ji61)) t22 _ ?side1 ?side2 ?side3 ?side4 A64.out).mono ?_
             (case side1=>exact cc_ (Kd.R_reads' Z9.out).2.2)
             (case side2=>exact (Kd.R_reads' Z9.out).2.1)
             (case side3=>exact cc_ (Kd.R_reads' Z10.out).2.2)
             (case side4=>exact (Kd.R_reads' Z10.out).2.1)
             rintro e w70 ⟨rfl,hb⟩
             have HS2_:=(hb.cell (World.block_lt_of_cell? _ _ (hHeld.2.2))).trans (hHeld.2.2)
             refine ⟨_,rfl,?_⟩
             have n0_:=rb_ HO_6 hb
             have n1_:=rb_ Z9 hb
             have n2_:=rb_ Z10 hb
             have n3_:=kb_ BK8 hb
             have n4_:=kb_ BK9 hb
             have n5_:=a0_ (below_step hb_ hb)
             clear HO_6
             clear Z9
             clear Z10
             clear BK8
             clear BK9
             clear HB
             have HO_6:=n0_
             have Z9:=n1_
             have Z10:=n2_
             have BK8:=n3_
             have BK9:=n4_
             have HB:=n5_
             clear n0_ n1_ n2_ n3_ n4_ n5_
             (try clear hb)
             (try clear hb2)
             (try clear hk)
             (try clear hi)
             refine hK.out _ _ ⟨(blk_cell BK8.out 0).trans rfl,(blk_cell BK9.out 0).trans rfl,HS2_⟩ (fun hHeld=>?_)
             clear hK K
             refine norm_ (a':=?_) ?_ ?_
             rotate_left
             ·show Act.put _ (some 77) _ = _
              simp only [Act.put,s1_,s2_,s3_,i64_w,i32_w]
              rfl
             refine pure_ (i:=9) (N:=some 8) (v:=?_) (a':=?_) #[true,true,true,true,true,true,true,true,true,true] rfl rfl (any_of HT_.out (by kernel_rfl)) (fun _ _ _ h=>h) (Or.inl ⟨by rfl,?_⟩) ?_ ?_
             rotate_left
             ·intro w'
              go_simp
              with_reducible rfl
             rotate_left
             ·simp only [Act.put,s1_,s2_,s3_,i64_w,i32_w]
              rfl
             refine done_ (done_of HT_.out (by kernel_rfl)) ?_
             have p23 : 0 ≤ (0 : Int):=(by omega)
             have q23 : 0 < (t10.length : Int):=of_decide_eq_true (by first | (with_reducible assumption) | assumption)
             obtain ⟨ad23,e23,hx23_0⟩:=Kd.at_int (Kd.R_reads' HO_6.out).2.2 0 p23 q23
             obtain rfl : ad21 = ad23:=(by injection e23)
             have qi23 : (0 < t10.length) = True:=eq_true (by omega)
             (try rw [show ((0 : Int)).toNat = 0 from rfl] at hx23_0)
             (try rw [Addr.add_zero'] at hx23_0)
             replace p23:=eq_true p23
             replace q23:=eq_true q23
             try go_wp2
             go_ret
             exact ⟨by first | rfl | (simp [errW_none,errW_some] <;> rfl) | (simp only [← hji61];first | rfl | (simp [errW_none,errW_some] <;> rfl)) | (simp [*,errW_none,errW_some] <;> rfl),hb_⟩
            ·rw [if_neg c67] at H
             have c67b0 : (t22 == (-1)) = false:=beq_eq_false_iff_ne.mpr c67
             have c67b1 : (t22 != (-1)) = true:=bne_iff_ne.mpr c67
             replace H:=Option.bind_eq_some_iff.mp H
             obtain ⟨t24,A710,H⟩:=H
             replace H : (some t24) = some r:=H
             have A71:=a0_ A710
             clear A710
             obtain rfl:=Option.some.inj H
             obtain ⟨Ao72,co72,eo72⟩:=Kd.R_slice HO_6.out
             subst eo72
             try go_wp2
             have n0_:=a0_ (Kd.R_drew HO_6.out)
             have n1_:=a0_ (Kd.R_drew Z9.out)
             have n2_:=a0_ (Kd.R_drew Z10.out)
             have n3_:=a0_ (blk_drew BK8.out)
             have n4_:=a0_ (blk_drew BK9.out)
             have n5_:=a0_ (below_drew1 HB.out)
             clear HO_6
             clear Z9
             clear Z10
             clear BK8
             clear BK9
             clear HB
             have HO_6:=n0_
             have Z9:=n1_
             have Z10:=n2_
             have BK8:=n3_
             have BK9:=n4_
             have HB:=n5_
             clear n0_ n1_ n2_ n3_ n4_ n5_
             have p21 : 0 ≤ ((ji61) : Int):=of_decide_eq_true (by first | (with_reducible assumption) | assumption)
             have q21 : (ji61) < (t10.length : Int):=of_decide_eq_true (by first | (with_reducible assumption) | assumption)
             obtain ⟨ad21,e21,hx21_0⟩:=Kd.at_int (Kd.R_reads' HO_6.out).2.2 (ji61) p21 q21
             cases e21
             replace p21:=eq_true p21
             replace q21:=eq_true q21
             refine start_ (n:=10) (S:=fun w'=>w'.cell? ⟨gb8,0,none⟩ = some (.slice Ao9 t1.length co9) ∧ w'.cell? ⟨gb9,0,none⟩ = some (.slice Ao12 t4.length co12) ∧ w'.cell? (ad21.add ((ji61)).toNat) = some (.int .i64 (rd t10 (ji61)))) (ds:=[]) #[false,false,false,false,false,false,false,false,false,false] (by kernel_rfl) rfl rfl ⟨(blk_cell BK8.out 0).trans rfl,(blk_cell BK9.out 0).trans rfl,hx21_0⟩ (fun hHeld=>?_);refine with_tabW laws_FnShownChain.tab12 laws_FnShownChain.bits12 (fun HT_ HW_=>?_)
             generalize wr.drew = w73 at HO_6 Z9 Z10 BK8 BK9 HB hx21_0 hHeld ⊢
             refine pure_ (i:=2) (N:=some 71) (v:=?_) (a':=?_) #[false,false,true,false,false,false,false,false,false,false] rfl rfl (any_of HT_.out (by kernel_rfl)) (fun _ _ _ h=>h) (Or.inl ⟨by rfl,?_⟩) ?_ ?_
             rotate_left
             ·intro w'
              go_simp
              with_reducible rfl
             rotate_left
             ·simp only [Act.put,s1_,s2_,s3_,i64_w,i32_w]
              rfl
             refine pure_ (i:=3) (N:=some 72) (v:=?_) (a':=?_) #[false,false,true,true,false,false,false,false,false,false] rfl rfl (any_of HT_.out (by kernel_rfl)) (fun _ _ _ h=>h) (Or.inl ⟨by rfl,?_⟩) ?_ ?_
             rotate_left
             ·intro w'
              go_simp
              with_reducible rfl
             rotate_left
             ·simp only [Act.put,s1_,s2_,s3_,i64_w,i32_w]
              rfl
             refine pure_ (i:=4) (N:=some 73) (v:=?_) (a':=?_) #[false,false,true,true,true,false,false,false,false,false] rfl rfl (any_of HT_.out (by kernel_rfl)) (fun _ _ _ h=>h) (Or.inl ⟨by rfl,?_⟩) ?_ ?_
             rotate_left
             ·intro w'
              go_simp
              with_reducible rfl
             rotate_left
             ·simp only [Act.put,s1_,s2_,s3_,i64_w,i32_w]
              rfl
             refine pure_ (i:=5) (N:=some 74) (v:=?_) (a':=?_) #[false,false,true,true,true,true,false,false,false,false] rfl rfl (any_of HT_.out (by kernel_rfl)) (fun _ _ _ h=>h) (Or.inl ⟨by rfl,?_⟩) ?_ ?_
             rotate_left
             ·intro w'
              go_simp
              with_reducible rfl
             rotate_left
             ·simp only [Act.put,s1_,s2_,s3_,i64_w,i32_w]
              rfl
             refine pure_ (i:=6) (N:=some 75) (v:=?_) (a':=?_) #[false,false,true,true,true,true,true,false,false,false] rfl rfl (any_of HT_.out (by kernel_rfl)) (fun _ _ _ h=>h) (Or.inl ⟨by rfl,?_⟩) ?_ ?_
             rotate_left
             ·intro w'
              go_simp
              with_reducible rfl
             rotate_left
             ·simp only [Act.put,s1_,s2_,s3_,i64_w,i32_w]
              rfl
             refine take_ (i:=0) (N:=some 69) (v:=?_) (a':=?_) #[true,false,true,true,true,true,true,false,false,false] rfl rfl (take_ofW HT_.out HW_.out (by kernel_rfl)) (fun _ _ _ h=>h) (Or.inl ⟨by rfl,?_⟩) hHeld ?_ ?_
             rotate_left
             ·rintro w' ⟨s0,s1,s2⟩
              go_simp
              with_reducible rfl
             rotate_left
             ·simp only [Act.put,s1_,s2_,s3_,i64_w,i32_w]
              rfl
             refine take_ (i:=1) (N:=some 70) (v:=?_) (a':=?_) #[true,true,true,true,true,true,true,false,false,false] rfl rfl (take_ofW HT_.out HW_.out (by kernel_rfl)) (fun _ _ _ h=>h) (Or.inl ⟨by rfl,?_⟩) hHeld ?_ ?_
             rotate_left
             ·rintro w' ⟨s0,s1,s2⟩
              go_simp
              with_reducible rfl
             rotate_left
             ·simp only [Act.put,s1_,s2_,s3_,i64_w,i32_w]
              rfl
             refine take_ (i:=7) (N:=some 76) (v:=?_) (a':=?_) #[true,true,true,true,true,true,true,true,false,false] rfl rfl (take_ofW HT_.out HW_.out (by kernel_rfl)) (fun _ _ _ h=>h) (Or.inl ⟨by rfl,?_⟩) hHeld ?_ ?_
             rotate_left
             ·rintro w' ⟨s0,s1,s2⟩
              go_simp
              with_reducible rfl
             rotate_left
             ·simp only [Act.put,s1_,s2_,s3_,i64_w,i32_w]
              rfl
             refine one_ (i:=8) (N:=some 77) #[true,true,true,true,true,true,true,true,true,false] rfl rfl (one_of HT_.out (by kernel_rfl)) (by decide) (fun K hK=>?_)
             refine goes_ Try.func14 (by kernel_rfl) rfl #[.agg #[.slice Ao9 t1.length co9],.agg #[.slice Ao12 t4.length co12],.int .i64 (rd t10 (ji61))] (by rfl) rfl rfl (by (try simp only [List.map_toArray,List.map_cons,List.map_nil]);first | done | (simp only [hji61];rfl) | rfl | (simp only [List.length_drop,List.length_take];rfl)) ?_
             with_reducible refine (impl_ShownNext.calls _ _ t1 _ _ t4 (rd t10 (ji61)) t22 _ ?side1 ?side2 ?side3 ?side4 A64.out).mono ?_
             (case side1=>exact cc_ (Kd.R_reads' Z9.out).2.2)
             (case side2=>exact (Kd.R_reads' Z9.out).2.1)
             (case side3=>exact cc_ (Kd.R_reads' Z10.out).2.2)
             (case side4=>exact (Kd.R_reads' Z10.out).2.1)
             rintro e w74 ⟨rfl,hb⟩
             have HS2_:=(hb.cell (World.block_lt_of_cell? _ _ (hHeld.2.2))).trans (hHeld.2.2)
             refine ⟨_,rfl,?_⟩
             have n0_:=rb_ HO_6 hb
             have n1_:=rb_ Z9 hb
             have n2_:=rb_ Z10 hb
             have n3_:=kb_ BK8 hb
             have n4_:=kb_ BK9 hb
             have n5_:=a0_ (below_step hb_ hb)
             clear HO_6
             clear Z9
             clear Z10
             clear BK8
             clear BK9
             clear HB
             have HO_6:=n0_
             have Z9:=n1_
             have Z10:=n2_
             have BK8:=n3_
             have BK9:=n4_
             have HB:=n5_
             clear n0_ n1_ n2_ n3_ n4_ n5_
             (try clear hb)
             (try clear hb2)
             (try clear hk)
             (try clear hi)
             refine hK.out _ _ ⟨(blk_cell BK8.out 0).trans rfl,(blk_cell BK9.out 0).trans rfl,HS2_⟩ (fun hHeld=>?_)
             clear hK K
             refine norm_ (a':=?_) ?_ ?_
             rotate_left
             ·show Act.put _ (some 77) _ = _
              simp only [Act.put,s1_,s2_,s3_,i64_w,i32_w]
              rfl
             refine pure_ (i:=9) (N:=some 8) (v:=?_) (a':=?_) #[true,true,true,true,true,true,true,true,true,true] rfl rfl (any_of HT_.out (by kernel_rfl)) (fun _ _ _ h=>h) (Or.inl ⟨by rfl,?_⟩) ?_ ?_
             rotate_left
             ·intro w'
              go_simp
              with_reducible rfl
             rotate_left
             ·simp only [Act.put,s1_,s2_,s3_,i64_w,i32_w]
              rfl
             refine done_ (done_of HT_.out (by kernel_rfl)) ?_
             have p23 : 0 ≤ (0 : Int):=(by omega)
             have q23 : 0 < (t10.length : Int):=of_decide_eq_true (by first | (with_reducible assumption) | assumption)
             obtain ⟨ad23,e23,hx23_0⟩:=Kd.at_int (Kd.R_reads' HO_6.out).2.2 0 p23 q23
             obtain rfl : ad21 = ad23:=(by injection e23)
             have qi23 : (0 < t10.length) = True:=eq_true (by omega)
             (try rw [show ((0 : Int)).toNat = 0 from rfl] at hx23_0)
             (try rw [Addr.add_zero'] at hx23_0)
             replace p23:=eq_true p23
             replace q23:=eq_true q23
             try go_wp2_with (first | (go_at_call 15;(with_reducible refine (laws_isIn.calls k2 _ _ t10 t22 t24 _ ?side1 ?side2 A71.out).mono ?_);(case side1=>exact cc_ (Kd.R_reads' HO_6.out).2.2);(case side2=>exact (Kd.R_reads' HO_6.out).2.1);rintro e w' ⟨rfl,⟨nd,rfl⟩⟩))
             go_ret
             exact ⟨by first | rfl | (simp [errW_none,errW_some] <;> rfl) | (simp only [← hji61];first | rfl | (simp [errW_none,errW_some] <;> rfl)) | (simp [*,errW_none,errW_some] <;> rfl),hb_⟩
           ·rw [if_neg c66] at H
            have c66b0 : ((rd t10 0) == t7) = false:=beq_eq_false_iff_ne.mpr c66
            have c66b1 : ((rd t10 0) != t7) = true:=bne_iff_ne.mpr c66
            obtain rfl:=Option.some.inj H
            obtain ⟨Ao75,co75,eo75⟩:=Kd.R_slice HO_6.out
            subst eo75
            try go_wp2
            have n0_:=a0_ (Kd.R_drew HO_6.out)
            have n1_:=a0_ (Kd.R_drew Z9.out)
            have n2_:=a0_ (Kd.R_drew Z10.out)
            have n3_:=a0_ (blk_drew BK8.out)
            have n4_:=a0_ (blk_drew BK9.out)
            have n5_:=a0_ (below_drew1 HB.out)
            clear HO_6
            clear Z9
            clear Z10
            clear BK8
            clear BK9
            clear HB
            have HO_6:=n0_
            have Z9:=n1_
            have Z10:=n2_
            have BK8:=n3_
            have BK9:=n4_
            have HB:=n5_
            clear n0_ n1_ n2_ n3_ n4_ n5_
            have p21 : 0 ≤ ((ji61) : Int):=of_decide_eq_true (by first | (with_reducible assumption) | assumption)
            have q21 : (ji61) < (t10.length : Int):=of_decide_eq_true (by first | (with_reducible assumption) | assumption)
            obtain ⟨ad21,e21,hx21_0⟩:=Kd.at_int (Kd.R_reads' HO_6.out).2.2 (ji61) p21 q21
            cases e21
            replace p21:=eq_true p21
            replace q21:=eq_true q21
            refine start_ (n:=10) (S:=fun w'=>w'.cell? ⟨gb8,0,none⟩ = some (.slice Ao9 t1.length co9) ∧ w'.cell? ⟨gb9,0,none⟩ = some (.slice Ao12 t4.length co12) ∧ w'.cell? (ad21.add ((ji61)).toNat) = some (.int .i64 (rd t10 (ji61)))) (ds:=[]) #[false,false,false,false,false,false,false,false,false,false] (by kernel_rfl) rfl rfl ⟨(blk_cell BK8.out 0).trans rfl,(blk_cell BK9.out 0).trans rfl,hx21_0⟩ (fun hHeld=>?_);refine with_tabW laws_FnShownChain.tab12 laws_FnShownChain.bits12 (fun HT_ HW_=>?_)
            generalize wr.drew = w76 at HO_6 Z9 Z10 BK8 BK9 HB hx21_0 hHeld ⊢
            refine pure_ (i:=2) (N:=some 71) (v:=?_) (a':=?_) #[false,false,true,false,false,false,false,false,false,false] rfl rfl (any_of HT_.out (by kernel_rfl)) (fun _ _ _ h=>h) (Or.inl ⟨by rfl,?_⟩) ?_ ?_
            rotate_left
            ·intro w'
             go_simp
             with_reducible rfl
            rotate_left
            ·simp only [Act.put,s1_,s2_,s3_,i64_w,i32_w]
             rfl
            refine pure_ (i:=3) (N:=some 72) (v:=?_) (a':=?_) #[false,false,true,true,false,false,false,false,false,false] rfl rfl (any_of HT_.out (by kernel_rfl)) (fun _ _ _ h=>h) (Or.inl ⟨by rfl,?_⟩) ?_ ?_
            rotate_left
            ·intro w'
             go_simp
             with_reducible rfl
            rotate_left
            ·simp only [Act.put,s1_,s2_,s3_,i64_w,i32_w]
             rfl
            refine pure_ (i:=4) (N:=some 73) (v:=?_) (a':=?_) #[false,false,true,true,true,false,false,false,false,false] rfl rfl (any_of HT_.out (by kernel_rfl)) (fun _ _ _ h=>h) (Or.inl ⟨by rfl,?_⟩) ?_ ?_
            rotate_left
            ·intro w'
             go_simp
             with_reducible rfl
            rotate_left
            ·simp only [Act.put,s1_,s2_,s3_,i64_w,i32_w]
             rfl
            refine pure_ (i:=5) (N:=some 74) (v:=?_) (a':=?_) #[false,false,true,true,true,true,false,false,false,false] rfl rfl (any_of HT_.out (by kernel_rfl)) (fun _ _ _ h=>h) (Or.inl ⟨by rfl,?_⟩) ?_ ?_
            rotate_left
            ·intro w'
             go_simp
             with_reducible rfl
            rotate_left
            ·simp only [Act.put,s1_,s2_,s3_,i64_w,i32_w]
             rfl
            refine pure_ (i:=6) (N:=some 75) (v:=?_) (a':=?_) #[false,false,true,true,true,true,true,false,false,false] rfl rfl (any_of HT_.out (by kernel_rfl)) (fun _ _ _ h=>h) (Or.inl ⟨by rfl,?_⟩) ?_ ?_
            rotate_left
            ·intro w'
             go_simp
             with_reducible rfl
            rotate_left
            ·simp only [Act.put,s1_,s2_,s3_,i64_w,i32_w]
             rfl
            refine take_ (i:=0) (N:=some 69) (v:=?_) (a':=?_) #[true,false,true,true,true,true,true,false,false,false] rfl rfl (take_ofW HT_.out HW_.out (by kernel_rfl)) (fun _ _ _ h=>h) (Or.inl ⟨by rfl,?_⟩) hHeld ?_ ?_
            rotate_left
            ·rintro w' ⟨s0,s1,s2⟩
             go_simp
             with_reducible rfl
            rotate_left
            ·simp only [Act.put,s1_,s2_,s3_,i64_w,i32_w]
             rfl
            refine take_ (i:=1) (N:=some 70) (v:=?_) (a':=?_) #[true,true,true,true,true,true,true,false,false,false] rfl rfl (take_ofW HT_.out HW_.out (by kernel_rfl)) (fun _ _ _ h=>h) (Or.inl ⟨by rfl,?_⟩) hHeld ?_ ?_
            rotate_left
            ·rintro w' ⟨s0,s1,s2⟩
             go_simp
             with_reducible rfl
            rotate_left
            ·simp only [Act.put,s1_,s2_,s3_,i64_w,i32_w]
             rfl
            refine take_ (i:=7) (N:=some 76) (v:=?_) (a':=?_) #[true,true,true,true,true,true,true,true,false,false] rfl rfl (take_ofW HT_.out HW_.out (by kernel_rfl)) (fun _ _ _ h=>h) (Or.inl ⟨by rfl,?_⟩) hHeld ?_ ?_
            rotate_left
            ·rintro w' ⟨s0,s1,s2⟩
             go_simp
             with_reducible rfl
            rotate_left
            ·simp only [Act.put,s1_,s2_,s3_,i64_w,i32_w]
             rfl
            refine one_ (i:=8) (N:=some 77) #[true,true,true,true,true,true,true,true,true,false] rfl rfl (one_of HT_.out (by kernel_rfl)) (by decide) (fun K hK=>?_)
            refine goes_ Try.func14 (by kernel_rfl) rfl #[.agg #[.slice Ao9 t1.length co9],.agg #[.slice Ao12 t4.length co12],.int .i64 (rd t10 (ji61))] (by rfl) rfl rfl (by (try simp only [List.map_toArray,List.map_cons,List.map_nil]);first | done | (simp only [hji61];rfl) | rfl | (simp only [List.length_drop,List.length_take];rfl)) ?_
            with_reducible refine (impl_ShownNext.calls _ _ t1 _ _ t4 (rd t10 (ji61)) t22 _ ?side1 ?side2 ?side3 ?side4 A64.out).mono ?_
            (case side1=>exact cc_ (Kd.R_reads' Z9.out).2.2)
            (case side2=>exact (Kd.R_reads' Z9.out).2.1)
            (case side3=>exact cc_ (Kd.R_reads' Z10.out).2.2)
            (case side4=>exact (Kd.R_reads' Z10.out).2.1)
            rintro e w77 ⟨rfl,hb⟩
            have HS2_:=(hb.cell (World.block_lt_of_cell? _ _ (hHeld.2.2))).trans (hHeld.2.2)
            refine ⟨_,rfl,?_⟩
            have n0_:=rb_ HO_6 hb
            have n1_:=rb_ Z9 hb
            have n2_:=rb_ Z10 hb
            have n3_:=kb_ BK8 hb
            have n4_:=kb_ BK9 hb
            have n5_:=a0_ (below_step hb_ hb)
            clear HO_6
            clear Z9
            clear Z10
            clear BK8
            clear BK9
            clear HB
            have HO_6:=n0_
            have Z9:=n1_
            have Z10:=n2_
            have BK8:=n3_
            have BK9:=n4_
            have HB:=n5_
            clear n0_ n1_ n2_ n3_ n4_ n5_
            (try clear hb)
            (try clear hb2)
            (try clear hk)
            (try clear hi)
            refine hK.out _ _ ⟨(blk_cell BK8.out 0).trans rfl,(blk_cell BK9.out 0).trans rfl,HS2_⟩ (fun hHeld=>?_)
            clear hK K
            refine norm_ (a':=?_) ?_ ?_
            rotate_left
            ·show Act.put _ (some 77) _ = _
             simp only [Act.put,s1_,s2_,s3_,i64_w,i32_w]
             rfl
            refine pure_ (i:=9) (N:=some 8) (v:=?_) (a':=?_) #[true,true,true,true,true,true,true,true,true,true] rfl rfl (any_of HT_.out (by kernel_rfl)) (fun _ _ _ h=>h) (Or.inl ⟨by rfl,?_⟩) ?_ ?_
            rotate_left
            ·intro w'
             go_simp
             with_reducible rfl
            rotate_left
            ·simp only [Act.put,s1_,s2_,s3_,i64_w,i32_w]
             rfl
            refine done_ (done_of HT_.out (by kernel_rfl)) ?_
            have p23 : 0 ≤ (0 : Int):=(by omega)
            have q23 : 0 < (t10.length : Int):=of_decide_eq_true (by first | (with_reducible assumption) | assumption)
            obtain ⟨ad23,e23,hx23_0⟩:=Kd.at_int (Kd.R_reads' HO_6.out).2.2 0 p23 q23
            obtain rfl : ad21 = ad23:=(by injection e23)
            have qi23 : (0 < t10.length) = True:=eq_true (by omega)
            (try rw [show ((0 : Int)).toNat = 0 from rfl] at hx23_0)
            (try rw [Addr.add_zero'] at hx23_0)
            replace p23:=eq_true p23
            replace q23:=eq_true q23
            try go_wp2
            go_ret
            exact ⟨by first | rfl | (simp [errW_none,errW_some] <;> rfl) | (simp only [← hji61];first | rfl | (simp [errW_none,errW_some] <;> rfl)) | (simp [*,errW_none,errW_some] <;> rfl),hb_⟩
          ·rw [if_neg c65] at H
           exact absurd H (by simp)
         ·rw [if_neg c63] at H
          exact absurd H (by simp)
        ·rw [if_neg c62] at H
         exact absurd H (by simp)
def laws_FnShownChain.Pure : Prop:=∀ (l0 : List Int),l0.length ≤ maxLen → l0.length * 1 ≤ 140737488351232 → (∀ x ∈ l0,(Lit.int .u8 x).wf = true) → ∃ k,laws_FnShownChain.f k l0 = some true
theorem laws_FnShownChain.walk (P : laws_FnShownChain.Pure) (a0 : Option Addr) (len0 cap0 : Nat) (z0 : List Int) (w : World) (w0 : (a0 = none ∧ len0 = 0 ∧ cap0 = 0 ∧ z0 = []) ∨ ∃ x,a0 = some x ∧ len0 ≤ cap0 ∧ cap0 ≤ maxLen ∧ z0.length = cap0 ∧ (∀ i,i < z0.length → w.cell? (x.add i) = some (.int .u8 (z0.getD i 0))) ∧ ∀ n ∈ z0,(Lit.int .u8 n).wf = true) (y0 : len0 * 1 ≤ 140737488351232) :
  Calls Try.prog 3 #[.slice a0 len0 cap0] w fun e w'=>e = .returned (.bool true) ∧ Below w.heap.size w w':=by
 obtain ⟨l0,rfl,hr0,hm0,hw0,hc0⟩:=ReadsInt.ofRowC w0
 obtain ⟨k,h⟩:=P l0 hm0 y0 hw0
 refine (laws_FnShownChain.calls k _ _ l0 true w (Kd.C_of_reads (d:=(0 : Int)) (h1:=fun _=>rfl) hr0) hc0 h).mono ?_
 rintro e w' ⟨rfl,hd⟩
 exact ⟨rfl,hd⟩
end Go.Proofs.Ytmiholmfbjalfaa.P
namespace Go.Proofs.Ytmiholmfbjalfaa.P
open Go.RowKit Go.Proofs.YtmiholmfbjalfaaW.PrintWords Go.Proofs.YtmiholmfbjalfaaW.PrintLast Go.Proofs.YtmiholmfbjalfaaW.PrintMore
attribute [local go_sem] max2_int min2_int max_two min_two max_three min_three max_four min_four
set_option linter.unusedVariables false
set_option linter.unusedSimpArgs false
theorem chain_link (next : Int → Int) : ∀ (d : Nat) (out : List Int) (x : Int) (k : Nat),k + 1 < (chainL next d out x).length → (chainL next d out x).getD (k + 1) 0 = next ((chainL next d out x).getD k 0):=by
 intro d
 induction d with
 | zero=>intro out x k hk;simp [chainL] at hk
 | succ d ih =>
  intro out x k hk
  rw [chainL] at hk ⊢
  by_cases hc : 0 ≤ x ∧ out.contains x = false
  ·rw [if_pos hc] at hk ⊢
   rw [List.length_cons] at hk
   cases k with
   | zero =>
    cases d with
    | zero=>simp [chainL] at hk
    | succ d =>
     rw [chainL] at hk ⊢
     by_cases hc2 : 0 ≤ next x ∧ (out ++ [x]).contains (next x) = false
     ·rw [if_pos hc2]
      simp
     ·rw [if_neg hc2] at hk
      simp at hk
   | succ k=>exact ih (out ++ [x]) (next x) k (by omega)
  ·rw [if_neg hc] at hk
   simp at hk
theorem chain_nodup (next : Int → Int) : ∀ (d : Nat) (out : List Int) (x : Int),(chainL next d out x).Nodup:=by
 intro d
 induction d with
 | zero=>intro out x;exact List.nodup_nil
 | succ d ih =>
  intro out x
  rw [chainL]
  split
  ·refine List.nodup_cons.2 ⟨fun hm=>?_,ih _ _⟩
   have:=(chain_mem next d (out ++ [x]) (next x) x hm).2
   rw [show (out ++ [x]).contains x = true by rw [List.contains_iff_mem];simp] at this
   cases this
  ·exact List.nodup_nil
theorem chain_last (next : Int → Int) (N : Nat) (hn : ∀ x : Int,0 ≤ x → x < (N : Int) → next x < (N : Int)) : ∀ (d : Nat) (out : List Int) (x : Int),x < (N : Int) → restN N out ≤ d → chainL next d out x ≠ [] → next (lastI (chainL next d out x)) < 0 ∨ next (lastI (chainL next d out x)) ∈ out ++ chainL next d out x:=by
 intro d
 induction d with
 | zero=>intro out x _ _ hne;exact absurd rfl hne
 | succ d ih =>
  intro out x hx hr hne
  rw [chainL] at hne ⊢
  by_cases hc : 0 ≤ x ∧ out.contains x = false
  ·rw [if_pos hc] at hne ⊢
   have hlt:=restN_lt hc.1 hx hc.2
   cases hq : chainL next d (out ++ [x]) (next x) with
   | nil =>
    have e : lastI [x] = x:=by simp [lastI]
    rw [e]
    by_cases h0 : 0 ≤ next x
    ·right
     have hin : (out ++ [x]).contains (next x) = true:=by
      cases hz : (out ++ [x]).contains (next x) with
      | true=>rfl
      | false =>
       cases d with
       | zero =>
        have:=restN_zero (n:=N) (out:=out ++ [x]) h0 (hn x hc.1 hx) (by omega)
        rw [this] at hz
        cases hz
       | succ d =>
        rw [chainL,if_pos ⟨h0,hz⟩] at hq
        cases hq
     rwa [List.contains_iff_mem] at hin
    ·left;omega
   | cons z r =>
    rw [lastI_cons,← hq]
    rcases ih (out ++ [x]) (next x) (hn x hc.1 hx) (by omega) (by rw [hq];simp) with h2 | h2
    ·exact Or.inl h2
    ·right
     rw [List.append_assoc] at h2
     exact h2
  ·rw [if_neg hc] at hne
   exact absurd rfl hne
theorem shwL_chain (h : List Fau) (f : Int) : shwL h f = chainL (shwN h) h.length [] f:=by
 unfold shwL
 rw [walkL_chain]
 rfl
section
variable {t : List Cls} {h : List Fau} {f : Int}
theorem shw_rng (hv : vH t h = true) (x : Int) (h0 : 0 ≤ x) (h1 : x < (h.length : Int)) : -1 ≤ shwN h x ∧ shwN h x < (h.length : Int):=fsH_shw (vH_parts hv).1 x h0 h1
theorem shw_head (h0 : 0 ≤ f) (h1 : f < (h.length : Int)) : (shwL h f).getD 0 0 = f:=by
 rw [shwL_chain]
 obtain ⟨n,hn⟩ : ∃ n,h.length = n + 1:=⟨h.length - 1,by omega⟩
 rw [hn,chainL,if_pos ⟨h0,by simp⟩]
 rfl
theorem shw_link (k : Nat) (hk : k + 1 < (shwL h f).length) : (shwL h f).getD (k + 1) 0 = shwN h ((shwL h f).getD k 0):=by
 rw [shwL_chain] at hk ⊢
 exact chain_link _ _ _ _ k hk
theorem shw_new (k : Nat) (hk : k < (shwL h f).length) : ((shwL h f).take k).contains ((shwL h f).getD k 0) = false:=by
 cases hq : ((shwL h f).take k).contains ((shwL h f).getD k 0) with
 | false=>rfl
 | true =>
  rw [List.contains_iff_mem,List.mem_take_iff_getElem] at hq
  obtain ⟨j,hj,e⟩:=hq
  have hnd:=chain_nodup (shwN h) h.length [] f
  rw [← shwL_chain] at hnd
  rw [List.getD_eq_getElem?_getD,List.getElem?_eq_getElem hk] at e
  have:=(List.getElem_inj hnd).1 e
  omega
theorem shw_last (hv : vH t h = true) (h0 : 0 ≤ f) (h1 : f < (h.length : Int)) : shwN h (lastI (shwL h f)) = -1 ∨ (shwL h f).contains (shwN h (lastI (shwL h f))) = true:=by
 have hp:=shwL_pos h f h0 h1
 have hm:=shwL_mem (fun x a b=>(shw_rng hv x a b).2) f h1 _ (lastI_mem hp)
 have hr:=shw_rng hv _ hm.1 hm.2
 have hc:=chain_last (shwN h) h.length (fun x a b=>(shw_rng hv x a b).2) h.length [] f h1 (restN_le _ _)
 rw [← shwL_chain] at hc
 rcases hc (fun hh=>by rw [hh] at hp;simp at hp) with h2 | h2
 ·left;omega
 ·right;rw [List.contains_iff_mem];exact h2
theorem ctx_last (hv : vH t h = true) (h0 : 0 ≤ f) (h1 : f < (h.length : Int)) : ctxN h (lastI (ctxL h f)) = -1:=by
 have hp:=ctxL_pos h f h0 h1
 have hm:=ctxL_mem (fun x a b=>(fsH_ctx (vH_parts hv).1 x a b).2) f h1 _ (lastI_mem hp)
 have hr:=fsH_ctx (vH_parts hv).1 _ hm.1 hm.2
 have:=all_at (vH_parts hv).2.1 f.toNat (by omega)
 unfold endB at this
 rw [show ((f.toNat : Nat) : Int) = f by omega] at this
 have:=of_decide_eq_true this
 omega
theorem ctx_head (h0 : 0 ≤ f) (h1 : f < (h.length : Int)) : (ctxL h f).getD 0 0 = f:=by
 unfold ctxL
 rw [walkL_chain]
 obtain ⟨n,hn⟩ : ∃ n,h.length = n + 1:=⟨h.length - 1,by omega⟩
 rw [hn,chainL,if_pos ⟨h0,by simp⟩]
 rfl
end
theorem hasF_mk {h : List Fau} {f : Int} (h0 : 0 ≤ f) (h1 : f < (h.length : Int)) : hasF h f = true:=by
 unfold hasF
 rw [Bool.and_eq_true,decide_eq_true_eq,decide_eq_true_eq]
 omega
theorem good_mk {t : List Cls} {h : List Fau} {f : Int} (hv : vH t h = true) (h0 : 0 ≤ f) (h1 : f < (h.length : Int)) : (vH t h && hasF h f) = true:=by
 rw [hv,hasF_mk h0 h1]
 rfl
end Go.Proofs.Ytmiholmfbjalfaa.P
namespace Go.Proofs.Ytmiholmfbjalfaa.Pure
open Go.RowKit Go.Proofs.Ytmiholmfbjalfaa.P
open Go.Proofs.YtmiholmfbjalfaaW.PrintWords (rd rdOf wrap_succ wrap_pred wrap_in toL_beq idxP)
set_option linter.unusedVariables false
theorem FnShownChain : laws_FnShownChain.Pure:=by
 intro l0 _ _ hw
 refine Ev.out (F:=fun k=>laws_FnShownChain.f k l0) ?_
 unfold laws_FnShownChain.f
 by_cases hbig : (l0.length : Int) > 1048576
 ·exact Ev.pos hbig (Ev.const rfl)
 refine Ev.neg hbig ?_
 obtain ⟨t,h,f,hd,ht,hs,hh⟩:=spec_DrawShownChain_ev l0 hw
 have hI:=impl_ShownChain_ev t h f hs (by omega)
 have hS:=spec_ShownChain_ev t h f hs (by omega) (by omega)
 have hlen:=shcP_len t h f
 refine Ev.bind hd (Ev.bind (Ev.const hI) (Ev.bind hS (Ev.bind (laws_equalInts_ev _ (by omega)) (Ev.pos rfl ?_))))
 by_cases hc : (vH t h && hasF h f) = true
 ·have hr : shcP t h f = shwL h f:=by unfold shcP;rw [if_pos hc]
  obtain ⟨_,h0,h1⟩:=good_parts hc
  have hv:=(Bool.and_eq_true _ _ ▸ hc).1
  have hp:=shwL_pos h f h0 h1
  have hn:=shwL_len h f
  have hmem:=shwL_mem (fun x a b=>(shw_rng hv x a b).2) f h1
  have hhd:=shw_head h0 h1
  have hlk:=shw_link (h:=h) (f:=f)
  have hnw:=shw_new (h:=h) (f:=f)
  have hla:=shw_last hv h0 h1
  rw [hr]
  generalize shwL h f = L at hp hn hmem hhd hlk hnw hla
  have hN : ∀ x ∈ L,impl_ShownNext.f t h x = some (shwN h x):=by
   intro x hx
   have hx2:=hmem x hx
   rw [impl_ShownNext_ev t h x hs (by omega)]
   unfold shwP
   rw [if_pos (good_mk hv hx2.1 hx2.2)]
  have hrd : ∀ j : Nat,j < L.length → rd L (j : Int) = L.getD j 0 ∧ L.getD j 0 ∈ L:=by
   intro j hj
   refine ⟨by simp [rd],?_⟩
   rw [List.getD_eq_getElem?_getD,List.getElem?_eq_getElem hj]
   exact List.getElem_mem _
  have key : ∀ d j,j + d = L.length → 1 ≤ j → Ev (fun k=>laws_FnShownChain.l0 k f L (j : Int) t h) true:=by
   intro d
   induction d with
   | zero =>
    intro j hj _
    refine Ev.succ ?_
    have e1 : wrap64 ((L.length : Int) - 1) = ((L.length - 1 : Nat) : Int):=by rw [wrap_in (by omega) (by omega)];omega
    simp only [laws_FnShownChain.l0,e1]
    have h2:=hrd (L.length - 1) (by omega)
    have h3:=hrd 0 (by omega)
    have h4 : rd L 0 = f:=h3.1.trans hhd
    rw [h2.1,h4]
    refine Ev.neg (by omega) (Ev.pos (by omega) (Ev.pos (by omega) (Ev.bind (Ev.const (hN _ h2.2)) (Ev.pos (by omega) (Ev.pos rfl ?_)))))
    rcases hla with h5 | h5
    ·exact Ev.pos h5 (Ev.const rfl)
    ·by_cases e : shwN h (L.getD (L.length - 1) 0) = -1
     ·exact Ev.pos e (Ev.const rfl)
     ·refine Ev.neg e (Ev.bind (laws_isIn_ev L _ (by omega)) (Ev.const ?_))
      exact congrArg some h5
   | succ d ih =>
    intro j hj j1
    refine Ev.succ ?_
    have e1 : wrap64 ((j : Int) - 1) = ((j - 1 : Nat) : Int):=by rw [wrap_in (by omega) (by omega)];omega
    simp only [laws_FnShownChain.l0,e1]
    have h2:=hrd (j - 1) (by omega)
    have h3:=hrd j (by omega)
    have h4:=hlk (j - 1) (by omega)
    rw [show j - 1 + 1 = j by omega] at h4
    rw [h2.1,h3.1]
    have h5:=laws_isIn_ev (L.take j) (L.getD j 0) (by rw [List.length_take];omega)
    rw [hnw j (by omega)] at h5
    refine Ev.pos (by omega) (Ev.pos (by omega) (Ev.pos (by omega) (Ev.bind (Ev.const (hN _ h2.2)) (Ev.pos (by omega) (Ev.pos h4.symm (Ev.pos (by omega) ?_))))))
    rw [Int.toNat_natCast,wrap_succ (i:=(j : Int)) (n:=L.length) (by omega) (by omega) (by omega)]
    exact Ev.bind h5 (Ev.neg (by simp) (ih (j + 1) (by omega) (by omega)))
  have e0 : ((L.length : Int) == 0) = false:=beq_eq_false_iff_ne.2 (by omega)
  rw [e0]
  refine Ev.succ ?_
  simp only [laws_FnShownChain.j0]
  exact Ev.neg (by simp) (key (L.length - 1) 1 (by omega) (by omega))
 ·have hr : shcP t h f = []:=by unfold shcP;rw [if_neg hc]
  rw [hr] at hS ⊢
  refine Ev.succ ?_
  simp only [laws_FnShownChain.j0]
  exact Ev.pos (by rfl) (Ev.bind hS (Ev.bind (laws_equalInts_ev _ (by simp)) (Ev.const rfl)))
end Go.Proofs.Ytmiholmfbjalfaa.Pure
