/- Texts under the proof of FnRaiseWhileChain: helper words, the functions' contracts and the plain laws. No condition. -/
import Derived.Test.YtmiholmfbjalfaaQFnRaiseWhileChaina
import Derived.Test.YtmiholmfbjalfaaQFnRaiseWhileChaind
import Derived.Test.YtmiholmfbjalfaaQFnRaiseWhileChaine
import Derived.Test.YtmiholmfbjalfaaQFnRaiseWhileChainb
namespace Go.Proofs.Ytmiholmfbjalfaa.P
open Go.RowKit Go.Proofs.YtmiholmfbjalfaaW.PrintWords Go.Proofs.YtmiholmfbjalfaaW.PrintLast Go.Proofs.YtmiholmfbjalfaaW.PrintMore
attribute [local go_sem] max2_int min2_int max_two min_two max_three min_three max_four min_four
set_option linter.unusedVariables false
set_option linter.unusedSimpArgs false
mutual
def laws_FnRaiseWhileChain.j0 : Nat → Int → Int → Bool → Bool → Bool → List (S87) → List (S43) → List (S43) → List (S43) → Option (Bool)
 | 0,_,_,_,_,_,_,_,_,_=>none
 | k + 1,x5,x6,x8,x10,x52,x10000,x11000,x16000,x21000=>if x52 = true then ((laws_equalHeap.f k x16000 x21000).bind fun t22=>(if t22 = true then (some (x8 == x10)) else (some false))) else (if x5 = x6 then (some true) else ((impl_ContextChain.f x10000 x11000 x6).bind fun t26=>(laws_FnRaiseWhileChain.l0 k x5 (([x5] : List Int)) t26 0 x10000 x16000)))
def laws_FnRaiseWhileChain.l0 : Nat → Int → List Int → List Int → Int → List (S87) → List (S43) → Option (Bool)
 | 0,_,_,_,_,_,_=>none
 | k + 1,x5,x11,x12,x13,x10000,x16000=>if x13 < (x12.length : Int) then (if 0 ≤ x13 then (if (rd x12 x13) = x5 then ((impl_ContextChain.f x10000 x16000 x5).bind fun t30=>((laws_equalInts.f k t30 x11).bind fun t33=>(some t33))) else (if x11.length < 17592186044416 then (laws_FnRaiseWhileChain.l0 k x5 (x11 ++ [rd x12 x13]) x12 (wrap64 (x13 + 1)) x10000 x16000) else (none))) else (none)) else ((impl_ContextChain.f x10000 x16000 x5).bind fun t38=>((laws_equalInts.f k t38 x11).bind fun t41=>(some t41)))
end
def laws_FnRaiseWhileChain.f (k : Nat) (l0 : List Int) : Option (Bool):=if (l0.length : Int) > 1048576 then (some true) else ((spec_DrawRaiseWhile.f k l0).bind fun bt1=>((impl_RaiseWhile.f bt1.1 bt1.2.1 bt1.2.2.1 bt1.2.2.2).bind fun bt11=>((spec_RaiseWhile.f k bt1.1 bt1.2.1 bt1.2.2.1 bt1.2.2.2).bind fun bt16=>((laws_equalHeap.f k bt11.1 bt16.1).bind fun t21=>(if t21 = true then (if (bt11.2 != bt16.2) = true then (laws_FnRaiseWhileChain.j0 k bt1.2.2.1 bt1.2.2.2 bt11.2 bt16.2 true bt1.1 bt1.2.1 bt11.1 bt16.1) else (laws_FnRaiseWhileChain.j0 k bt1.2.2.1 bt1.2.2.2 bt11.2 bt16.2 (!bt11.2) bt1.1 bt1.2.1 bt11.1 bt16.1)) else (laws_FnRaiseWhileChain.j0 k bt1.2.2.1 bt1.2.2.2 bt11.2 bt16.2 true bt1.1 bt1.2.1 bt11.1 bt16.1))))))
theorem laws_FnRaiseWhileChain.mono_l : ∀ k,(∀ y0 y1 y2 y3 y4 y5 y6 y7 y8,LeO (laws_FnRaiseWhileChain.j0 k y0 y1 y2 y3 y4 y5 y6 y7 y8) (laws_FnRaiseWhileChain.j0 (k + 1) y0 y1 y2 y3 y4 y5 y6 y7 y8)) ∧ (∀ y0 y1 y2 y3 y4 y5,LeO (laws_FnRaiseWhileChain.l0 k y0 y1 y2 y3 y4 y5) (laws_FnRaiseWhileChain.l0 (k + 1) y0 y1 y2 y3 y4 y5))
 | 0=>⟨fun _ _ _ _ _ _ _ _ _ r h=>by simp [laws_FnRaiseWhileChain.j0] at h,fun _ _ _ _ _ _ r h=>by simp [laws_FnRaiseWhileChain.l0] at h⟩
 | k + 1=>by
  obtain ⟨ih0,ih1⟩:=laws_FnRaiseWhileChain.mono_l k
  refine ⟨?_,?_⟩
  ·intro y0 y1 y2 y3 y4 y5 y6 y7 y8
   unfold laws_FnRaiseWhileChain.j0
   repeat' first
   | (with_reducible exact ih0 _ _ _ _ _ _ _ _ _)
   | (with_reducible exact ih1 _ _ _ _ _ _)
   | (with_reducible exact laws_equalHeap.mono _ _ _)
   | (with_reducible exact laws_equalInts.mono _ _ _)
   | (with_reducible exact spec_DrawRaiseWhile.mono _ _)
   | (with_reducible exact spec_RaiseWhile.mono _ _ _ _ _)
   | (with_reducible exact LeO.refl _)
   | (with_reducible exact LeO.none _)
   | (with_reducible refine LeO.ite ?_ ?_)
   | (with_reducible refine LeO.bind ?_ (fun _=>?_))
   | exact ih0 _ _ _ _ _ _ _ _ _
   | exact ih1 _ _ _ _ _ _
   | exact laws_equalHeap.mono _ _ _
   | exact laws_equalInts.mono _ _ _
   | exact spec_DrawRaiseWhile.mono _ _
   | exact spec_RaiseWhile.mono _ _ _ _ _
   | exact LeO.none _
   | refine LeO.ite ?_ ?_
   | refine LeO.bind ?_ (fun _=>?_)
  ·intro y0 y1 y2 y3 y4 y5
   unfold laws_FnRaiseWhileChain.l0
   repeat' first
   | (with_reducible exact ih0 _ _ _ _ _ _ _ _ _)
   | (with_reducible exact ih1 _ _ _ _ _ _)
   | (with_reducible exact laws_equalHeap.mono _ _ _)
   | (with_reducible exact laws_equalInts.mono _ _ _)
   | (with_reducible exact spec_DrawRaiseWhile.mono _ _)
   | (with_reducible exact spec_RaiseWhile.mono _ _ _ _ _)
   | (with_reducible exact LeO.refl _)
   | (with_reducible exact LeO.none _)
   | (with_reducible refine LeO.ite ?_ ?_)
   | (with_reducible refine LeO.bind ?_ (fun _=>?_))
   | exact ih0 _ _ _ _ _ _ _ _ _
   | exact ih1 _ _ _ _ _ _
   | exact laws_equalHeap.mono _ _ _
   | exact laws_equalInts.mono _ _ _
   | exact spec_DrawRaiseWhile.mono _ _
   | exact spec_RaiseWhile.mono _ _ _ _ _
   | exact LeO.none _
   | refine LeO.ite ?_ ?_
   | refine LeO.bind ?_ (fun _=>?_)
theorem laws_FnRaiseWhileChain.mono : ∀ a0 k,LeO (laws_FnRaiseWhileChain.f k a0) (laws_FnRaiseWhileChain.f (k + 1) a0):=by
 intro a0 k
 obtain ⟨ih0,ih1⟩:=laws_FnRaiseWhileChain.mono_l k
 unfold laws_FnRaiseWhileChain.f
 repeat' first
   | (with_reducible exact ih0 _ _ _ _ _ _ _ _ _)
   | (with_reducible exact ih1 _ _ _ _ _ _)
   | (with_reducible exact laws_equalHeap.mono _ _ _)
   | (with_reducible exact laws_equalInts.mono _ _ _)
   | (with_reducible exact spec_DrawRaiseWhile.mono _ _)
   | (with_reducible exact spec_RaiseWhile.mono _ _ _ _ _)
   | (with_reducible exact LeO.refl _)
   | (with_reducible exact LeO.none _)
   | (with_reducible refine LeO.ite ?_ ?_)
   | (with_reducible refine LeO.bind ?_ (fun _=>?_))
   | exact ih0 _ _ _ _ _ _ _ _ _
   | exact ih1 _ _ _ _ _ _
   | exact laws_equalHeap.mono _ _ _
   | exact laws_equalInts.mono _ _ _
   | exact spec_DrawRaiseWhile.mono _ _
   | exact spec_RaiseWhile.mono _ _ _ _ _
   | exact LeO.none _
   | refine LeO.ite ?_ ?_
   | refine LeO.bind ?_ (fun _=>?_)
set_option maxHeartbeats 8000000 in
set_option maxRecDepth 100000 in
theorem laws_FnRaiseWhileChain.calls (k : Nat) (A0 : Option Addr) (c0 : Nat) (l0 : List Int) (r : Bool) (w : World) (hr0 : Kd.C (Kd.int .u8) w A0 l0.length l0) (hc0 : l0.length ≤ c0) (h : laws_FnRaiseWhileChain.f k l0 = some r) :
  Calls Try.prog 8 #[.slice A0 l0.length c0] w fun e w'=>e = .returned (.bool r) ∧ Below w.heap.size w w':=by
 have hu25:=Try.underlying25
 have hu28:=Try.underlying28
 have HR0:=a0_ hr0
 have HC0:=a0_ hc0
 clear hr0 hc0
 have HB:=a0_ (Below.refl w.heap.size w)
 have H : (if (l0.length : Int) > 1048576 then (some true) else ((spec_DrawRaiseWhile.f k l0).bind fun bt1=>((impl_RaiseWhile.f bt1.1 bt1.2.1 bt1.2.2.1 bt1.2.2.2).bind fun bt11=>((spec_RaiseWhile.f k bt1.1 bt1.2.1 bt1.2.2.1 bt1.2.2.2).bind fun bt16=>((laws_equalHeap.f k bt11.1 bt16.1).bind fun t21=>(if t21 = true then (if (bt11.2 != bt16.2) = true then (laws_FnRaiseWhileChain.j0 k bt1.2.2.1 bt1.2.2.2 bt11.2 bt16.2 true bt1.1 bt1.2.1 bt11.1 bt16.1) else (laws_FnRaiseWhileChain.j0 k bt1.2.2.1 bt1.2.2.2 bt11.2 bt16.2 (!bt11.2) bt1.1 bt1.2.1 bt11.1 bt16.1)) else (laws_FnRaiseWhileChain.j0 k bt1.2.2.1 bt1.2.2.2 bt11.2 bt16.2 true bt1.1 bt1.2.1 bt11.1 bt16.1))))))) = some r:=h
 clear h
 by_cases c2 : (l0.length : Int) > 1048576
 ·rw [if_pos c2] at H
  have c2b0 : decide (1048576 < (l0.length : Int)) = true:=decide_eq_true c2
  have c2b1 : decide (1048576 < l0.length) = true:=decide_eq_true (by omega)
  clear c2
  obtain rfl:=Option.some.inj H
  go_enter Try.func8,Try.ntmps8
  go_wp2
  go_ret
  exact ⟨by first | rfl | (simp [errW_none,errW_some] <;> rfl) | (simp [*,errW_none,errW_some] <;> rfl),hb_⟩
 ·rw [if_neg c2] at H
  have c2b0 : decide (1048576 < (l0.length : Int)) = false:=decide_eq_false c2
  have c2b1 : decide (1048576 < l0.length) = false:=decide_eq_false (by omega)
  clear c2
  replace H:=Option.bind_eq_some_iff.mp H
  obtain ⟨⟨t1,t4,t7,t8⟩,A30,H⟩:=H
  try dsimp only at H
  have A3:=a0_ A30
  clear A30
  replace H:=Option.bind_eq_some_iff.mp H
  obtain ⟨⟨t11,t14⟩,A40,H⟩:=H
  try dsimp only at H
  have A4:=a0_ A40
  clear A40
  replace H:=Option.bind_eq_some_iff.mp H
  obtain ⟨⟨t16,t19⟩,A50,H⟩:=H
  try dsimp only at H
  have A5:=a0_ A50
  clear A50
  have HC6:=a0_ H
  clear H
  go_enter Try.func8,Try.ntmps8
  go_upto_region 6 with (first | ((with_reducible refine gate_callee (f:=27) rfl ?_);refine goesL_ (some 19) rfl rfl Try.func27 (by kernel_rfl) rfl #[.slice A0 l0.length c0] rfl lm_ ?_;(with_reducible refine (spec_DrawRaiseWhile.calls k _ _ l0 t1 t4 t7 t8 _ ?side1 ?side2 A3.out).mono ?_);(case side1=>repeat (first | exact HR0.out | (with_reducible refine Kd.C_alloc ?_ _) | (with_reducible refine Kd.C_drewN ?_ _) | (with_reducible refine Kd.C_drew ?_)));(case side2=>exact HC0.out);rintro e w7 ⟨v2,v5,rfl,ho0,ho1,hb⟩;refine ⟨_,rfl,?_⟩;have HO3:=a0_ (Kd.R_lower ho0 (below_size hb_));have HO6:=a0_ (Kd.R_lower ho1 (below_size hb_));replace HB:=a0_ (below_step hb_ hb);(try clear hb);(try clear ho0);(try clear ho1)) | ((with_reducible refine gate_dst (N:=3) rfl ?_);refine box_event ?hg (N:=3) ?hd (cs:=#[.slice none 0 0]) (t:=25) ?hr ?_;(case hd=>rfl);(case hg=>rfl);(case hr=>first | (go_simp;done) | (go_simp;rfl));intro gb9 hg w8 hbox hb;replace HO3:=rb_ HO3 hb;replace HO6:=rb_ HO6 hb;have BK9:=a0_ (hbox);have GW9:=a0_ ((by rw [hg];exact (below_size hb_) : w.heap.size ≤ gb9));have GE9:=a0_ ((by rw [hg];exact (below_size hb_) : w.heap.size ≤ gb9));replace HB:=a0_ (below_step hb_ hb);clear hb hbox hg) | ((with_reducible refine gate_dst (N:=4) rfl ?_);refine box_event ?hg (N:=4) ?hd (cs:=#[.slice none 0 0]) (t:=28) ?hr ?_;(case hd=>rfl);(case hg=>rfl);(case hr=>first | (go_simp;done) | (go_simp;rfl));intro gb10 hg w9 hbox hb;have n0_:=rb_ HO3 hb;have n1_:=rb_ HO6 hb;have n2_:=kb_ BK9 hb;have n3_:=a0_ (below_step hb_ hb);have n4_:=a0_ (hbox);have n5_:=a0_ ((by rw [hg];exact (below_size hb_) : w.heap.size ≤ gb10));have n6_:=a0_ ((by rw [hg];exact (below_size hb_) : w.heap.size ≤ gb10));have n7_:=a0_ ((by rw [hg];exact Nat.ne_of_lt (blk_lt (bb_ BK9.out)) : gb9 ≠ gb10));have n8_:=a0_ ((by rw [hg];exact Nat.ne_of_gt (blk_lt (bb_ BK9.out)) : gb10 ≠ gb9));clear HO3 HO6;clear BK9 HB;have HO3:=n0_;have HO6:=n1_;have BK9:=n2_;have HB:=n3_;have BK10:=n4_;have GW10:=n5_;have GE10:=n6_;have NB9_10:=n7_;have NB10_9:=n8_;clear n0_ n1_ n2_ n3_ n4_ n5_ n6_ n7_ n8_;clear hb hbox hg;obtain ⟨Ao10,co10,eo10⟩:=Kd.R_slice HO3.out;subst eo10;have hnb11:=NB9_10.out;have hnc11:=NB10_9.out;have hcz12_0 : w9.cell? ⟨gb9,0,none⟩ = some (.slice none 0 0):=(blk_cell BK9.out 0).trans rfl;have hfz12_0:=blk_frozen BK9.out 0;obtain ⟨Ao13,co13,eo13⟩:=Kd.R_slice HO6.out;subst eo13;have hcz14_0 : w9.cell? ⟨gb10,0,none⟩ = some (.slice none 0 0):=(blk_cell BK10.out 0).trans rfl;have hfz14_0:=blk_frozen BK10.out 0) | ((with_reducible refine gate_callee (f:=28) rfl ?_);refine goesL_ (some 29) rfl rfl Try.func28 (by kernel_rfl) rfl #[.agg #[.slice Ao10 t1.length co10],.agg #[.slice Ao13 t4.length co13],.int .i64 t7,.int .i64 t8] rfl lm_ ?_;(with_reducible refine (impl_RaiseWhile.calls _ _ t1 _ _ t4 t7 t8 t11 t14 _ ?side1 ?side2 ?side3 ?side4 A4.out).mono ?_);(case side1=>refine (Kd.R_reads' (e:=87) (base:=w.heap.size) (ok:=fun k_=>True) (n:=t1.length) (c:=co10) ?_).2.2;exact (by (with_reducible repeat (first | apply Kd.R_alloc | apply Kd.R_drewN | apply Kd.R_drew));exact (Kd.R_mono (Kd.R_mono (Kd.R_far (p:=⟨gb10,0,none⟩) (Kd.R_far (p:=⟨gb9,0,none⟩) (Kd.R_types (Kd.R_types HO3.out BK9.out (by decide)) BK10.out (by decide)) (fun _ hk=>hk.1.2) (.slice Ao10 t1.length co10)) (fun _ hk=>hk.2) (.slice Ao13 t4.length co13)) (fun _ h_=>h_.1)) (fun _ h_=>h_.1))));(case side2=>exact (Kd.R_reads' HO3.out).2.1);(case side3=>refine (Kd.R_reads' (e:=43) (base:=w.heap.size) (ok:=fun k_=>True) (n:=t4.length) (c:=co13) ?_).2.2;exact (by (with_reducible repeat (first | apply Kd.R_alloc | apply Kd.R_drewN | apply Kd.R_drew));exact (Kd.R_mono (Kd.R_mono (Kd.R_far (p:=⟨gb10,0,none⟩) (Kd.R_far (p:=⟨gb9,0,none⟩) (Kd.R_types (Kd.R_types HO6.out BK9.out (by decide)) BK10.out (by decide)) (fun _ hk=>hk.1.2) (.slice Ao10 t1.length co10)) (fun _ hk=>hk.2) (.slice Ao13 t4.length co13)) (fun _ h_=>h_.1)) (fun _ h_=>h_.1))));(case side4=>exact (Kd.R_reads' HO6.out).2.1);rintro e w15 ⟨v12,rfl,ho0,hb⟩;refine ⟨_,rfl,?_⟩;have n0_:=a0_ (Kd.R_below (by (with_reducible repeat (first | apply Kd.R_alloc | apply Kd.R_drewN | apply Kd.R_drew));exact (Kd.R_mono (Kd.R_mono (Kd.R_far (p:=⟨gb10,0,none⟩) (Kd.R_far (p:=⟨gb9,0,none⟩) (Kd.R_types (Kd.R_types HO3.out BK9.out (by decide)) BK10.out (by decide)) (fun _ hk=>hk.1.2) (.slice Ao10 t1.length co10)) (fun _ hk=>hk.2) (.slice Ao13 t4.length co13)) (fun _ h_=>h_.1)) (fun _ h_=>h_.1))) hb);have n1_:=a0_ (Kd.R_elder' (by (with_reducible repeat (first | apply Kd.R_alloc | apply Kd.R_drewN | apply Kd.R_drew));exact (Kd.R_mono (Kd.R_mono (Kd.R_far (p:=⟨gb10,0,none⟩) (Kd.R_far (p:=⟨gb9,0,none⟩) (Kd.R_types (Kd.R_types HO6.out BK9.out (by decide)) BK10.out (by decide)) (fun _ hk=>hk.1.2) (.slice Ao10 t1.length co10)) (fun _ hk=>hk.2) (.slice Ao13 t4.length co13)) (fun _ h_=>h_.1)) (fun _ h_=>h_.1))) (Kd.R_base ho0) hb);have n2_:=a0_ (Kd.R_lower (Kd.R_new' ho0 (Kd.R_lt (by (with_reducible repeat (first | apply Kd.R_alloc | apply Kd.R_drewN | apply Kd.R_drew));exact (Kd.R_mono (Kd.R_mono (Kd.R_far (p:=⟨gb10,0,none⟩) (Kd.R_far (p:=⟨gb9,0,none⟩) (Kd.R_types (Kd.R_types HO6.out BK9.out (by decide)) BK10.out (by decide)) (fun _ hk=>hk.1.2) (.slice Ao10 t1.length co10)) (fun _ hk=>hk.2) (.slice Ao13 t4.length co13)) (fun _ h_=>h_.1)) (fun _ h_=>h_.1))))) (below_size hb_));have n3_:=a0_ (blk_below (g:=gb9) (o:=.cells #[.slice Ao10 t1.length co10] 25 (0,0)) (by (with_reducible repeat (first | refine blk_drewN ?_ _ | refine blk_drew ?_ | refine blk_alloc ?_ _));refine blk_far ?_ NB9_10.out _;(with_reducible repeat (first | refine blk_drewN ?_ _ | refine blk_drew ?_ | refine blk_alloc ?_ _));refine blk_put (cs:=#[.slice none 0 0]) ?_ 0 _ rfl;(with_reducible repeat (first | refine blk_drewN ?_ _ | refine blk_drew ?_ | refine blk_alloc ?_ _));exact BK9.out) hb);have n4_:=a0_ (blk_below (g:=gb10) (o:=.cells #[.slice Ao13 t4.length co13] 28 (0,0)) (by (with_reducible repeat (first | refine blk_drewN ?_ _ | refine blk_drew ?_ | refine blk_alloc ?_ _));refine blk_put (cs:=#[.slice none 0 0]) ?_ 0 _ rfl;(with_reducible repeat (first | refine blk_drewN ?_ _ | refine blk_drew ?_ | refine blk_alloc ?_ _));refine blk_far ?_ NB10_9.out _;(with_reducible repeat (first | refine blk_drewN ?_ _ | refine blk_drew ?_ | refine blk_alloc ?_ _));exact BK10.out) hb);have n5_:=a0_ (below_step hb_ hb);clear HO3 HO6;clear BK9 BK10 HB;have HO3:=n0_;have HO6:=n1_;have HO13:=n2_;have BK9:=n3_;have BK10:=n4_;have HB:=n5_;clear n0_ n1_ n2_ n3_ n4_ n5_;(try clear hb);(try clear ho0)) | ((with_reducible refine gate_dst (N:=7) rfl ?_);refine box_event ?hg (N:=7) ?hd (cs:=#[.slice none 0 0]) (t:=28) ?hr ?_;(case hd=>rfl);(case hg=>rfl);(case hr=>first | (go_simp;done) | (go_simp;rfl));intro gb15 hg w16 hbox hb;have n0_:=rb_ HO3 hb;have n1_:=rb_ HO6 hb;have n2_:=rb_ HO13 hb;have n3_:=kb_ BK9 hb;have n4_:=kb_ BK10 hb;have n5_:=a0_ (below_step hb_ hb);have n6_:=a0_ (hbox);have n7_:=a0_ ((by rw [hg];exact (below_size hb_) : w.heap.size ≤ gb15));have n8_:=a0_ ((by rw [hg];exact (below_size hb_) : w.heap.size ≤ gb15));have n9_:=a0_ ((by rw [hg];exact Nat.ne_of_lt (blk_lt (bb_ BK9.out)) : gb9 ≠ gb15));have n10_:=a0_ ((by rw [hg];exact Nat.ne_of_gt (blk_lt (bb_ BK9.out)) : gb15 ≠ gb9));have n11_:=a0_ ((by rw [hg];exact Nat.ne_of_lt (blk_lt (bb_ BK10.out)) : gb10 ≠ gb15));have n12_:=a0_ ((by rw [hg];exact Nat.ne_of_gt (blk_lt (bb_ BK10.out)) : gb15 ≠ gb10));clear HO3 HO6;clear HO13 BK9;clear BK10 HB;have HO3:=n0_;have HO6:=n1_;have HO13:=n2_;have BK9:=n3_;have BK10:=n4_;have HB:=n5_;have BK15:=n6_;have GW15:=n7_;have GE15:=n8_;have NB9_15:=n9_;have NB15_9:=n10_;have NB10_15:=n11_;have NB15_10:=n12_;clear n0_ n1_ n2_ n3_ n4_ n5_ n6_ n7_ n8_ n9_ n10_ n11_ n12_;clear hb hbox hg;obtain ⟨Ao17,co17,eo17⟩:=Kd.R_slice HO13.out;subst eo17;have hnb18:=NB15_9.out;have hnc18:=NB9_15.out;have hnb19:=NB15_10.out;have hnc19:=NB10_15.out;have hcz20_0 : w16.cell? ⟨gb15,0,none⟩ = some (.slice none 0 0):=(blk_cell BK15.out 0).trans rfl;have hfz20_0:=blk_frozen BK15.out 0;have hcz21_0 : w16.cell? ⟨gb9,0,none⟩ = some (.slice Ao10 t1.length co10):=(blk_cell BK9.out 0).trans rfl;have hfz21_0:=blk_frozen BK9.out 0;have hcz22_0 : w16.cell? ⟨gb10,0,none⟩ = some (.slice Ao13 t4.length co13):=(blk_cell BK10.out 0).trans rfl;have hfz22_0:=blk_frozen BK10.out 0) | ((with_reducible refine gate_callee (f:=29) rfl ?_);refine goesL_ (some 37) rfl rfl Try.func29 (by kernel_rfl) rfl #[.agg #[.slice Ao10 t1.length co10],.agg #[.slice Ao13 t4.length co13],.int .i64 t7,.int .i64 t8] rfl lm_ ?_;(with_reducible refine (spec_RaiseWhile.calls k _ _ t1 _ _ t4 t7 t8 t16 t19 _ ?side1 ?side2 ?side3 ?side4 A5.out).mono ?_);(case side1=>refine (Kd.R_reads' (e:=87) (base:=w.heap.size) (ok:=fun k_=>True) (n:=t1.length) (c:=co10) ?_).2.2;exact (by (with_reducible repeat (first | apply Kd.R_alloc | apply Kd.R_drewN | apply Kd.R_drew));exact (Kd.R_mono (Kd.R_far (p:=⟨gb15,0,none⟩) (Kd.R_types HO3.out BK15.out (by decide)) (fun _ hk=>hk.2) (.slice Ao17 t11.length co17)) (fun _ h_=>h_.1))));(case side2=>exact (Kd.R_reads' HO3.out).2.1);(case side3=>refine (Kd.R_reads' (e:=43) (base:=w.heap.size) (ok:=fun k_=>(True ∧ some k_ ≠ (.slice Ao17 t11.length co17 : Value).ownBlock)) (n:=t4.length) (c:=co13) ?_).2.2;exact (by (with_reducible repeat (first | apply Kd.R_alloc | apply Kd.R_drewN | apply Kd.R_drew));exact (Kd.R_mono (Kd.R_far (p:=⟨gb15,0,none⟩) (Kd.R_types HO6.out BK15.out (by decide)) (fun _ hk=>hk.2) (.slice Ao17 t11.length co17)) (fun _ h_=>h_.1))));(case side4=>exact (Kd.R_reads' HO6.out).2.1);rintro e w23 ⟨v17,rfl,ho0,hb⟩;refine ⟨_,rfl,?_⟩;have n0_:=a0_ (Kd.R_below (by (with_reducible repeat (first | apply Kd.R_alloc | apply Kd.R_drewN | apply Kd.R_drew));exact (Kd.R_mono (Kd.R_far (p:=⟨gb15,0,none⟩) (Kd.R_types HO3.out BK15.out (by decide)) (fun _ hk=>hk.2) (.slice Ao17 t11.length co17)) (fun _ h_=>h_.1))) hb);have n1_:=a0_ (Kd.R_elder' (by (with_reducible repeat (first | apply Kd.R_alloc | apply Kd.R_drewN | apply Kd.R_drew));exact (Kd.R_mono (Kd.R_far (p:=⟨gb15,0,none⟩) (Kd.R_types HO6.out BK15.out (by decide)) (fun _ hk=>hk.2) (.slice Ao17 t11.length co17)) (fun _ h_=>h_.1))) (Kd.R_base ho0) hb);have n2_:=a0_ (Kd.R_elder' (by (with_reducible repeat (first | apply Kd.R_alloc | apply Kd.R_drewN | apply Kd.R_drew));exact (Kd.R_mono (Kd.R_far (p:=⟨gb15,0,none⟩) (Kd.R_types HO13.out BK15.out (by decide)) (fun _ hk=>hk.2) (.slice Ao17 t11.length co17)) (fun _ h_=>h_.1))) (Kd.R_base ho0) hb);have n3_:=a0_ (Kd.R_lower (Kd.R_new' (Kd.R_new' ho0 (Kd.R_lt (by (with_reducible repeat (first | apply Kd.R_alloc | apply Kd.R_drewN | apply Kd.R_drew));exact (Kd.R_mono (Kd.R_far (p:=⟨gb15,0,none⟩) (Kd.R_types HO6.out BK15.out (by decide)) (fun _ hk=>hk.2) (.slice Ao17 t11.length co17)) (fun _ h_=>h_.1))))) (Kd.R_lt (by (with_reducible repeat (first | apply Kd.R_alloc | apply Kd.R_drewN | apply Kd.R_drew));exact (Kd.R_mono (Kd.R_far (p:=⟨gb15,0,none⟩) (Kd.R_types HO13.out BK15.out (by decide)) (fun _ hk=>hk.2) (.slice Ao17 t11.length co17)) (fun _ h_=>h_.1))))) (below_size hb_));have n4_:=kf_ BK9 NB9_15 hb;have n5_:=kf_ BK10 NB10_15 hb;have n6_:=a0_ (blk_below (g:=gb15) (o:=.cells #[.slice Ao17 t11.length co17] 28 (0,0)) (by (with_reducible repeat (first | refine blk_drewN ?_ _ | refine blk_drew ?_ | refine blk_alloc ?_ _));refine blk_put (cs:=#[.slice none 0 0]) ?_ 0 _ rfl;(with_reducible repeat (first | refine blk_drewN ?_ _ | refine blk_drew ?_ | refine blk_alloc ?_ _));exact BK15.out) hb);have n7_:=a0_ (below_step hb_ hb);clear HO3 HO6;clear HO13 BK9;clear BK10 BK15 HB;have HO3:=n0_;have HO6:=n1_;have HO13:=n2_;have HO18:=n3_;have BK9:=n4_;have BK10:=n5_;have BK15:=n6_;have HB:=n7_;clear n0_ n1_ n2_ n3_ n4_ n5_ n6_ n7_;(try clear hb);(try clear ho0)) | ((with_reducible refine gate_dst (N:=9) rfl ?_);refine box_event ?hg (N:=9) ?hd (cs:=#[.slice none 0 0]) (t:=28) ?hr ?_;(case hd=>rfl);(case hg=>rfl);(case hr=>first | (go_simp;done) | (go_simp;rfl));intro gb20 hg w24 hbox hb;have n0_:=rb_ HO3 hb;have n1_:=rb_ HO6 hb;have n2_:=rb_ HO13 hb;have n3_:=rb_ HO18 hb;have n4_:=kb_ BK9 hb;have n5_:=kb_ BK10 hb;have n6_:=kb_ BK15 hb;have n7_:=a0_ (below_step hb_ hb);have n8_:=a0_ (hbox);have n9_:=a0_ ((by rw [hg];exact (below_size hb_) : w.heap.size ≤ gb20));have n10_:=a0_ ((by rw [hg];exact (below_size hb_) : w.heap.size ≤ gb20));have n11_:=a0_ ((by rw [hg];exact Nat.ne_of_lt (blk_lt (bb_ BK9.out)) : gb9 ≠ gb20));have n12_:=a0_ ((by rw [hg];exact Nat.ne_of_gt (blk_lt (bb_ BK9.out)) : gb20 ≠ gb9));have n13_:=a0_ ((by rw [hg];exact Nat.ne_of_lt (blk_lt (bb_ BK10.out)) : gb10 ≠ gb20));have n14_:=a0_ ((by rw [hg];exact Nat.ne_of_gt (blk_lt (bb_ BK10.out)) : gb20 ≠ gb10));have n15_:=a0_ ((by rw [hg];exact Nat.ne_of_lt (blk_lt (bb_ BK15.out)) : gb15 ≠ gb20));have n16_:=a0_ ((by rw [hg];exact Nat.ne_of_gt (blk_lt (bb_ BK15.out)) : gb20 ≠ gb15));clear HO3 HO6;clear HO13 HO18;clear BK9 BK10;clear BK15 HB;have HO3:=n0_;have HO6:=n1_;have HO13:=n2_;have HO18:=n3_;have BK9:=n4_;have BK10:=n5_;have BK15:=n6_;have HB:=n7_;have BK20:=n8_;have GW20:=n9_;have GE20:=n10_;have NB9_20:=n11_;have NB20_9:=n12_;have NB10_20:=n13_;have NB20_10:=n14_;have NB15_20:=n15_;have NB20_15:=n16_;clear n0_ n1_ n2_ n3_ n4_ n5_ n6_ n7_ n8_ n9_ n10_ n11_ n12_ n13_ n14_ n15_ n16_;clear hb hbox hg;obtain ⟨Ao25,co25,eo25⟩:=Kd.R_slice HO18.out;subst eo25;have hnb26:=NB20_9.out;have hnc26:=NB9_20.out;have hnb27:=NB20_10.out;have hnc27:=NB10_20.out;have hnb28:=NB20_15.out;have hnc28:=NB15_20.out;have hcz29_0 : w24.cell? ⟨gb20,0,none⟩ = some (.slice none 0 0):=(blk_cell BK20.out 0).trans rfl;have hfz29_0:=blk_frozen BK20.out 0))
  (try simp only [Act.put,s1_,s2_,s3_])
  go_cut [52] (fun v52 wc=>∃ (kq : Nat) (x52_5 : Bool),v52 = .bool x52_5 ∧ Aside0 (laws_FnRaiseWhileChain.j0 kq t7 t8 t14 t19 x52_5 t1 t4 t11 t16 = some r) ∧ Aside0 (kq ≤ k) ∧ Aside0 (Kd.R k87 87 wc w.heap.size (fun _=>True) (.slice Ao10 t1.length co10) t1) ∧ Aside0 (Kd.R k43 43 wc w.heap.size (fun k_=>some k_ ≠ ((.slice Ao17 t11.length co17) : Value).ownBlock ∧ some k_ ≠ ((.slice Ao25 t16.length co25) : Value).ownBlock) (.slice Ao13 t4.length co13) t4) ∧ Aside0 (Kd.R k43 43 wc w.heap.size (fun k_=>some k_ ≠ ((.slice Ao13 t4.length co13) : Value).ownBlock ∧ some k_ ≠ ((.slice Ao25 t16.length co25) : Value).ownBlock) (.slice Ao17 t11.length co17) t11) ∧ Aside0 (Kd.R k43 43 wc w.heap.size (fun k_=>some k_ ≠ ((.slice Ao13 t4.length co13) : Value).ownBlock ∧ some k_ ≠ ((.slice Ao17 t11.length co17) : Value).ownBlock) (.slice Ao25 t16.length co25) t16) ∧ Aside0 (wc.heap[gb9]? = some (.cells #[(.slice Ao10 t1.length co10)] 25 (0,0))) ∧ Aside0 (wc.heap[gb10]? = some (.cells #[(.slice Ao13 t4.length co13)] 28 (0,0))) ∧ Aside0 (wc.heap[gb15]? = some (.cells #[(.slice Ao17 t11.length co17)] 28 (0,0))) ∧ Aside0 (wc.heap[gb20]? = some (.cells #[(.slice Ao25 t16.length co25)] 28 (0,0))) ∧ Aside0 (Below w.heap.size w wc))
  case first =>
   have H:=HC6.out
   clear HC6
   replace H:=Option.bind_eq_some_iff.mp H
   obtain ⟨t21,A300,H⟩:=H
   try dsimp only at H
   have A30:=a0_ A300
   clear A300
   by_cases c31 : t21 = true
   ·subst c31
    have H1 : (if (t14 != t19) = true then (laws_FnRaiseWhileChain.j0 k t7 t8 t14 t19 true t1 t4 t11 t16) else (laws_FnRaiseWhileChain.j0 k t7 t8 t14 t19 (!t14) t1 t4 t11 t16)) = some r:=by rw [if_pos rfl] at H;exact H
    clear H
    have H:=H1
    clear H1
    by_cases c32 : (t14 != t19) = true
    ·rw [if_pos c32] at H
     have c32b0 : (t14 != t19) = true:=c32
     (try (have c32b1 : decide (t14 = t19) = false:=by simpa using c32))
     (try (have c32b2 : (t14 == t19) = false:=by simpa using c32))
     (try (have c32b3 : ¬ (t14 = t19):=by simpa using c32))
     clear c32
     (first | rw [c32b0] | (simp only [i64_w,i32_w];rw [c32b0]) | skip)
     have H':=a0_ H
     clear H
     have hnb33:=NB15_9.out
     have hnc33:=NB9_15.out
     have hnb34:=NB15_10.out
     have hnc34:=NB10_15.out
     have hnb35:=NB15_20.out
     have hnc35:=NB20_15.out
     have hcz36_0 : w24.cell? ⟨gb15,0,none⟩ = some (.slice Ao17 t11.length co17):=(blk_cell BK15.out 0).trans rfl
     have hfz36_0:=blk_frozen BK15.out 0
     have hnb37:=NB20_9.out
     have hnc37:=NB9_20.out
     have hnb38:=NB20_10.out
     have hnc38:=NB10_20.out
     have hcz39_0 : w24.cell? ⟨gb20,0,none⟩ = some (.slice none 0 0):=(blk_cell BK20.out 0).trans rfl
     have hfz39_0:=blk_frozen BK20.out 0
     go_wp2_with (first | ((with_reducible refine gate_callee (f:=19) rfl ?_);refine goesL_ (some 42) rfl rfl Try.func19 (by kernel_rfl) rfl #[.agg #[.slice Ao17 t11.length co17],.agg #[.slice Ao25 t16.length co25]] rfl lm_ ?_;(with_reducible refine (laws_equalHeap.calls k _ _ t11 _ _ t16 true _ ?side1 ?side2 ?side3 ?side4 A30.out).mono ?_);(case side1=>refine (Kd.R_reads' (e:=43) (base:=w.heap.size) (ok:=fun k_=>((True ∧ some k_ ≠ (.slice Ao13 t4.length co13 : Value).ownBlock) ∧ some k_ ≠ (.slice Ao25 t16.length co25 : Value).ownBlock)) (n:=t11.length) (c:=co17) ?_).2.2;exact (by (with_reducible repeat (first | apply Kd.R_alloc | apply Kd.R_drewN | apply Kd.R_drew));exact (Kd.R_mono (Kd.R_far (p:=⟨gb20,0,none⟩) (Kd.R_types HO13.out BK20.out (by decide)) (fun _ hk=>hk.2) (.slice Ao25 t16.length co25)) (fun _ h_=>h_.1))));(case side2=>exact (Kd.R_reads' HO13.out).2.1);(case side3=>refine (Kd.R_reads' (e:=43) (base:=w.heap.size) (ok:=fun k_=>((True ∧ some k_ ≠ (.slice Ao13 t4.length co13 : Value).ownBlock) ∧ some k_ ≠ (.slice Ao17 t11.length co17 : Value).ownBlock)) (n:=t16.length) (c:=co25) ?_).2.2;exact (by (with_reducible repeat (first | apply Kd.R_alloc | apply Kd.R_drewN | apply Kd.R_drew));exact (Kd.R_mono (Kd.R_far (p:=⟨gb20,0,none⟩) (Kd.R_types HO18.out BK20.out (by decide)) (fun _ hk=>hk.2) (.slice Ao25 t16.length co25)) (fun _ h_=>h_.1))));(case side4=>exact (Kd.R_reads' HO18.out).2.1);rintro e w40 ⟨rfl,hb⟩;refine ⟨_,rfl,?_⟩;replace HO3:=a0_ (Kd.R_below (by (with_reducible repeat (first | apply Kd.R_alloc | apply Kd.R_drewN | apply Kd.R_drew));exact (Kd.R_mono (Kd.R_far (p:=⟨gb20,0,none⟩) (Kd.R_types HO3.out BK20.out (by decide)) (fun _ hk=>hk.2) (.slice Ao25 t16.length co25)) (fun _ h_=>h_.1))) hb);replace HO6:=a0_ (Kd.R_below (by (with_reducible repeat (first | apply Kd.R_alloc | apply Kd.R_drewN | apply Kd.R_drew));exact (Kd.R_mono (Kd.R_far (p:=⟨gb20,0,none⟩) (Kd.R_types HO6.out BK20.out (by decide)) (fun _ hk=>hk.2) (.slice Ao25 t16.length co25)) (fun _ h_=>h_.1))) hb);replace HO13:=a0_ (Kd.R_below (by (with_reducible repeat (first | apply Kd.R_alloc | apply Kd.R_drewN | apply Kd.R_drew));exact (Kd.R_mono (Kd.R_far (p:=⟨gb20,0,none⟩) (Kd.R_types HO13.out BK20.out (by decide)) (fun _ hk=>hk.2) (.slice Ao25 t16.length co25)) (fun _ h_=>h_.1))) hb);replace HO18:=a0_ (Kd.R_below (by (with_reducible repeat (first | apply Kd.R_alloc | apply Kd.R_drewN | apply Kd.R_drew));exact (Kd.R_mono (Kd.R_far (p:=⟨gb20,0,none⟩) (Kd.R_types HO18.out BK20.out (by decide)) (fun _ hk=>hk.2) (.slice Ao25 t16.length co25)) (fun _ h_=>h_.1))) hb);replace BK9:=kf_ BK9 NB9_20 hb;replace BK10:=kf_ BK10 NB10_20 hb;replace BK15:=kf_ BK15 NB15_20 hb;replace BK20:=a0_ (blk_below (g:=gb20) (o:=.cells #[.slice Ao25 t16.length co25] 28 (0,0)) (by (with_reducible repeat (first | refine blk_drewN ?_ _ | refine blk_drew ?_ | refine blk_alloc ?_ _));refine blk_put (cs:=#[.slice none 0 0]) ?_ 0 _ rfl;(with_reducible repeat (first | refine blk_drewN ?_ _ | refine blk_drew ?_ | refine blk_alloc ?_ _));exact BK20.out) hb);replace HB:=a0_ (below_step hb_ hb);(try clear hb);(try clear hb2);(try clear hk);(try clear hi)))
     go_meet
     case rel=>exact ⟨_,(true),(by first | rfl | (simp;done) | (simp [*];done)),H',⟨by first | omega | exact Nat.le_refl _⟩,⟨by (with_reducible repeat (first | apply Kd.R_alloc | apply Kd.R_drewN | apply Kd.R_drew));exact HO3.out⟩,⟨by (with_reducible repeat (first | apply Kd.R_alloc | apply Kd.R_drewN | apply Kd.R_drew));exact Kd.R_mono HO6.out (fun _ hk=>⟨hk.1.2,hk.2⟩)⟩,⟨by (with_reducible repeat (first | apply Kd.R_alloc | apply Kd.R_drewN | apply Kd.R_drew));exact Kd.R_mono HO13.out (fun _ hk=>⟨hk.1.2,hk.2⟩)⟩,⟨by (with_reducible repeat (first | apply Kd.R_alloc | apply Kd.R_drewN | apply Kd.R_drew));exact Kd.R_mono HO18.out (fun _ hk=>⟨hk.1.2,hk.2⟩)⟩,⟨by (with_reducible repeat (first | refine blk_drewN ?_ _ | refine blk_drew ?_ | refine blk_alloc ?_ _));exact BK9.out⟩,⟨by (with_reducible repeat (first | refine blk_drewN ?_ _ | refine blk_drew ?_ | refine blk_alloc ?_ _));exact BK10.out⟩,⟨by (with_reducible repeat (first | refine blk_drewN ?_ _ | refine blk_drew ?_ | refine blk_alloc ?_ _));exact BK15.out⟩,⟨by (with_reducible repeat (first | refine blk_drewN ?_ _ | refine blk_drew ?_ | refine blk_alloc ?_ _));exact BK20.out⟩,⟨hb_⟩⟩
    ·rw [if_neg c32] at H
     have c32b0 : (t14 != t19) = false:=by simpa using c32
     (try (have c32b1 : decide (t14 = t19) = true:=by simpa using c32))
     (try (have c32b2 : (t14 == t19) = true:=by simpa using c32))
     clear c32
     (first | rw [c32b0] | (simp only [i64_w,i32_w];rw [c32b0]) | skip)
     have H':=a0_ H
     clear H
     have hnb41:=NB15_9.out
     have hnc41:=NB9_15.out
     have hnb42:=NB15_10.out
     have hnc42:=NB10_15.out
     have hnb43:=NB15_20.out
     have hnc43:=NB20_15.out
     have hcz44_0 : w24.cell? ⟨gb15,0,none⟩ = some (.slice Ao17 t11.length co17):=(blk_cell BK15.out 0).trans rfl
     have hfz44_0:=blk_frozen BK15.out 0
     have hnb45:=NB20_9.out
     have hnc45:=NB9_20.out
     have hnb46:=NB20_10.out
     have hnc46:=NB10_20.out
     have hcz47_0 : w24.cell? ⟨gb20,0,none⟩ = some (.slice none 0 0):=(blk_cell BK20.out 0).trans rfl
     have hfz47_0:=blk_frozen BK20.out 0
     go_wp2_with (first | ((with_reducible refine gate_callee (f:=19) rfl ?_);refine goesL_ (some 42) rfl rfl Try.func19 (by kernel_rfl) rfl #[.agg #[.slice Ao17 t11.length co17],.agg #[.slice Ao25 t16.length co25]] rfl lm_ ?_;(with_reducible refine (laws_equalHeap.calls k _ _ t11 _ _ t16 true _ ?side1 ?side2 ?side3 ?side4 A30.out).mono ?_);(case side1=>refine (Kd.R_reads' (e:=43) (base:=w.heap.size) (ok:=fun k_=>((True ∧ some k_ ≠ (.slice Ao13 t4.length co13 : Value).ownBlock) ∧ some k_ ≠ (.slice Ao25 t16.length co25 : Value).ownBlock)) (n:=t11.length) (c:=co17) ?_).2.2;exact (by (with_reducible repeat (first | apply Kd.R_alloc | apply Kd.R_drewN | apply Kd.R_drew));exact (Kd.R_mono (Kd.R_far (p:=⟨gb20,0,none⟩) (Kd.R_types HO13.out BK20.out (by decide)) (fun _ hk=>hk.2) (.slice Ao25 t16.length co25)) (fun _ h_=>h_.1))));(case side2=>exact (Kd.R_reads' HO13.out).2.1);(case side3=>refine (Kd.R_reads' (e:=43) (base:=w.heap.size) (ok:=fun k_=>((True ∧ some k_ ≠ (.slice Ao13 t4.length co13 : Value).ownBlock) ∧ some k_ ≠ (.slice Ao17 t11.length co17 : Value).ownBlock)) (n:=t16.length) (c:=co25) ?_).2.2;exact (by (with_reducible repeat (first | apply Kd.R_alloc | apply Kd.R_drewN | apply Kd.R_drew));exact (Kd.R_mono (Kd.R_far (p:=⟨gb20,0,none⟩) (Kd.R_types HO18.out BK20.out (by decide)) (fun _ hk=>hk.2) (.slice Ao25 t16.length co25)) (fun _ h_=>h_.1))));(case side4=>exact (Kd.R_reads' HO18.out).2.1);rintro e w48 ⟨rfl,hb⟩;refine ⟨_,rfl,?_⟩;replace HO3:=a0_ (Kd.R_below (by (with_reducible repeat (first | apply Kd.R_alloc | apply Kd.R_drewN | apply Kd.R_drew));exact (Kd.R_mono (Kd.R_far (p:=⟨gb20,0,none⟩) (Kd.R_types HO3.out BK20.out (by decide)) (fun _ hk=>hk.2) (.slice Ao25 t16.length co25)) (fun _ h_=>h_.1))) hb);replace HO6:=a0_ (Kd.R_below (by (with_reducible repeat (first | apply Kd.R_alloc | apply Kd.R_drewN | apply Kd.R_drew));exact (Kd.R_mono (Kd.R_far (p:=⟨gb20,0,none⟩) (Kd.R_types HO6.out BK20.out (by decide)) (fun _ hk=>hk.2) (.slice Ao25 t16.length co25)) (fun _ h_=>h_.1))) hb);replace HO13:=a0_ (Kd.R_below (by (with_reducible repeat (first | apply Kd.R_alloc | apply Kd.R_drewN | apply Kd.R_drew));exact (Kd.R_mono (Kd.R_far (p:=⟨gb20,0,none⟩) (Kd.R_types HO13.out BK20.out (by decide)) (fun _ hk=>hk.2) (.slice Ao25 t16.length co25)) (fun _ h_=>h_.1))) hb);replace HO18:=a0_ (Kd.R_below (by (with_reducible repeat (first | apply Kd.R_alloc | apply Kd.R_drewN | apply Kd.R_drew));exact (Kd.R_mono (Kd.R_far (p:=⟨gb20,0,none⟩) (Kd.R_types HO18.out BK20.out (by decide)) (fun _ hk=>hk.2) (.slice Ao25 t16.length co25)) (fun _ h_=>h_.1))) hb);replace BK9:=kf_ BK9 NB9_20 hb;replace BK10:=kf_ BK10 NB10_20 hb;replace BK15:=kf_ BK15 NB15_20 hb;replace BK20:=a0_ (blk_below (g:=gb20) (o:=.cells #[.slice Ao25 t16.length co25] 28 (0,0)) (by (with_reducible repeat (first | refine blk_drewN ?_ _ | refine blk_drew ?_ | refine blk_alloc ?_ _));refine blk_put (cs:=#[.slice none 0 0]) ?_ 0 _ rfl;(with_reducible repeat (first | refine blk_drewN ?_ _ | refine blk_drew ?_ | refine blk_alloc ?_ _));exact BK20.out) hb);replace HB:=a0_ (below_step hb_ hb);(try clear hb);(try clear hb2);(try clear hk);(try clear hi)))
     go_meet
     case rel=>exact ⟨_,(!t14),(by first | rfl | (simp;done) | (simp [*];done)),H',⟨by first | omega | exact Nat.le_refl _⟩,⟨by (with_reducible repeat (first | apply Kd.R_alloc | apply Kd.R_drewN | apply Kd.R_drew));exact HO3.out⟩,⟨by (with_reducible repeat (first | apply Kd.R_alloc | apply Kd.R_drewN | apply Kd.R_drew));exact Kd.R_mono HO6.out (fun _ hk=>⟨hk.1.2,hk.2⟩)⟩,⟨by (with_reducible repeat (first | apply Kd.R_alloc | apply Kd.R_drewN | apply Kd.R_drew));exact Kd.R_mono HO13.out (fun _ hk=>⟨hk.1.2,hk.2⟩)⟩,⟨by (with_reducible repeat (first | apply Kd.R_alloc | apply Kd.R_drewN | apply Kd.R_drew));exact Kd.R_mono HO18.out (fun _ hk=>⟨hk.1.2,hk.2⟩)⟩,⟨by (with_reducible repeat (first | refine blk_drewN ?_ _ | refine blk_drew ?_ | refine blk_alloc ?_ _));exact BK9.out⟩,⟨by (with_reducible repeat (first | refine blk_drewN ?_ _ | refine blk_drew ?_ | refine blk_alloc ?_ _));exact BK10.out⟩,⟨by (with_reducible repeat (first | refine blk_drewN ?_ _ | refine blk_drew ?_ | refine blk_alloc ?_ _));exact BK15.out⟩,⟨by (with_reducible repeat (first | refine blk_drewN ?_ _ | refine blk_drew ?_ | refine blk_alloc ?_ _));exact BK20.out⟩,⟨hb_⟩⟩
   ·replace c31:=Bool.eq_false_iff.mpr c31
    subst c31
    have H1 : (laws_FnRaiseWhileChain.j0 k t7 t8 t14 t19 true t1 t4 t11 t16) = some r:=by rw [if_neg (show ¬ (false = true) by decide)] at H;exact H
    clear H
    have H:=H1
    clear H1
    have H':=a0_ H
    clear H
    have hnb49:=NB15_9.out
    have hnc49:=NB9_15.out
    have hnb50:=NB15_10.out
    have hnc50:=NB10_15.out
    have hnb51:=NB15_20.out
    have hnc51:=NB20_15.out
    have hcz52_0 : w24.cell? ⟨gb15,0,none⟩ = some (.slice Ao17 t11.length co17):=(blk_cell BK15.out 0).trans rfl
    have hfz52_0:=blk_frozen BK15.out 0
    have hnb53:=NB20_9.out
    have hnc53:=NB9_20.out
    have hnb54:=NB20_10.out
    have hnc54:=NB10_20.out
    have hcz55_0 : w24.cell? ⟨gb20,0,none⟩ = some (.slice none 0 0):=(blk_cell BK20.out 0).trans rfl
    have hfz55_0:=blk_frozen BK20.out 0
    go_wp2_with (first | ((with_reducible refine gate_callee (f:=19) rfl ?_);refine goesL_ (some 42) rfl rfl Try.func19 (by kernel_rfl) rfl #[.agg #[.slice Ao17 t11.length co17],.agg #[.slice Ao25 t16.length co25]] rfl lm_ ?_;(with_reducible refine (laws_equalHeap.calls k _ _ t11 _ _ t16 false _ ?side1 ?side2 ?side3 ?side4 A30.out).mono ?_);(case side1=>refine (Kd.R_reads' (e:=43) (base:=w.heap.size) (ok:=fun k_=>((True ∧ some k_ ≠ (.slice Ao13 t4.length co13 : Value).ownBlock) ∧ some k_ ≠ (.slice Ao25 t16.length co25 : Value).ownBlock)) (n:=t11.length) (c:=co17) ?_).2.2;exact (by (with_reducible repeat (first | apply Kd.R_alloc | apply Kd.R_drewN | apply Kd.R_drew));exact (Kd.R_mono (Kd.R_far (p:=⟨gb20,0,none⟩) (Kd.R_types HO13.out BK20.out (by decide)) (fun _ hk=>hk.2) (.slice Ao25 t16.length co25)) (fun _ h_=>h_.1))));(case side2=>exact (Kd.R_reads' HO13.out).2.1);(case side3=>refine (Kd.R_reads' (e:=43) (base:=w.heap.size) (ok:=fun k_=>((True ∧ some k_ ≠ (.slice Ao13 t4.length co13 : Value).ownBlock) ∧ some k_ ≠ (.slice Ao17 t11.length co17 : Value).ownBlock)) (n:=t16.length) (c:=co25) ?_).2.2;exact (by (with_reducible repeat (first | apply Kd.R_alloc | apply Kd.R_drewN | apply Kd.R_drew));exact (Kd.R_mono (Kd.R_far (p:=⟨gb20,0,none⟩) (Kd.R_types HO18.out BK20.out (by decide)) (fun _ hk=>hk.2) (.slice Ao25 t16.length co25)) (fun _ h_=>h_.1))));(case side4=>exact (Kd.R_reads' HO18.out).2.1);rintro e w56 ⟨rfl,hb⟩;refine ⟨_,rfl,?_⟩;replace HO3:=a0_ (Kd.R_below (by (with_reducible repeat (first | apply Kd.R_alloc | apply Kd.R_drewN | apply Kd.R_drew));exact (Kd.R_mono (Kd.R_far (p:=⟨gb20,0,none⟩) (Kd.R_types HO3.out BK20.out (by decide)) (fun _ hk=>hk.2) (.slice Ao25 t16.length co25)) (fun _ h_=>h_.1))) hb);replace HO6:=a0_ (Kd.R_below (by (with_reducible repeat (first | apply Kd.R_alloc | apply Kd.R_drewN | apply Kd.R_drew));exact (Kd.R_mono (Kd.R_far (p:=⟨gb20,0,none⟩) (Kd.R_types HO6.out BK20.out (by decide)) (fun _ hk=>hk.2) (.slice Ao25 t16.length co25)) (fun _ h_=>h_.1))) hb);replace HO13:=a0_ (Kd.R_below (by (with_reducible repeat (first | apply Kd.R_alloc | apply Kd.R_drewN | apply Kd.R_drew));exact (Kd.R_mono (Kd.R_far (p:=⟨gb20,0,none⟩) (Kd.R_types HO13.out BK20.out (by decide)) (fun _ hk=>hk.2) (.slice Ao25 t16.length co25)) (fun _ h_=>h_.1))) hb);replace HO18:=a0_ (Kd.R_below (by (with_reducible repeat (first | apply Kd.R_alloc | apply Kd.R_drewN | apply Kd.R_drew));exact (Kd.R_mono (Kd.R_far (p:=⟨gb20,0,none⟩) (Kd.R_types HO18.out BK20.out (by decide)) (fun _ hk=>hk.2) (.slice Ao25 t16.length co25)) (fun _ h_=>h_.1))) hb);replace BK9:=kf_ BK9 NB9_20 hb;replace BK10:=kf_ BK10 NB10_20 hb;replace BK15:=kf_ BK15 NB15_20 hb;replace BK20:=a0_ (blk_below (g:=gb20) (o:=.cells #[.slice Ao25 t16.length co25] 28 (0,0)) (by (with_reducible repeat (first | refine blk_drewN ?_ _ | refine blk_drew ?_ | refine blk_alloc ?_ _));refine blk_put (cs:=#[.slice none 0 0]) ?_ 0 _ rfl;(with_reducible repeat (first | refine blk_drewN ?_ _ | refine blk_drew ?_ | refine blk_alloc ?_ _));exact BK20.out) hb);replace HB:=a0_ (below_step hb_ hb);(try clear hb);(try clear hb2);(try clear hk);(try clear hi)))
    go_meet
    case rel=>exact ⟨_,(true),(by first | rfl | (simp;done) | (simp [*];done)),H',⟨by first | omega | exact Nat.le_refl _⟩,⟨by (with_reducible repeat (first | apply Kd.R_alloc | apply Kd.R_drewN | apply Kd.R_drew));exact HO3.out⟩,⟨by (with_reducible repeat (first | apply Kd.R_alloc | apply Kd.R_drewN | apply Kd.R_drew));exact Kd.R_mono HO6.out (fun _ hk=>⟨hk.1.2,hk.2⟩)⟩,⟨by (with_reducible repeat (first | apply Kd.R_alloc | apply Kd.R_drewN | apply Kd.R_drew));exact Kd.R_mono HO13.out (fun _ hk=>⟨hk.1.2,hk.2⟩)⟩,⟨by (with_reducible repeat (first | apply Kd.R_alloc | apply Kd.R_drewN | apply Kd.R_drew));exact Kd.R_mono HO18.out (fun _ hk=>⟨hk.1.2,hk.2⟩)⟩,⟨by (with_reducible repeat (first | refine blk_drewN ?_ _ | refine blk_drew ?_ | refine blk_alloc ?_ _));exact BK9.out⟩,⟨by (with_reducible repeat (first | refine blk_drewN ?_ _ | refine blk_drew ?_ | refine blk_alloc ?_ _));exact BK10.out⟩,⟨by (with_reducible repeat (first | refine blk_drewN ?_ _ | refine blk_drew ?_ | refine blk_alloc ?_ _));exact BK15.out⟩,⟨by (with_reducible repeat (first | refine blk_drewN ?_ _ | refine blk_drew ?_ | refine blk_alloc ?_ _));exact BK20.out⟩,⟨hb_⟩⟩
  case rest =>
   clear HC6
   try clear c1
   try clear c2
   try clear c2b0
   try clear c2b1
   try clear p2
   try clear c3
   try clear c4
   try clear c5
   try clear c8
   try clear c11
   try clear c18
   try clear c19
   try clear c26
   try clear c27
   try clear c28
   try clear c29
   try clear c31
   try clear c32
   try clear c32b0
   try clear c32b1
   try clear c32b2
   try clear c33
   try clear c34
   try clear c35
   try clear c37
   try clear c38
   try clear c41
   try clear c42
   try clear c43
   try clear c45
   try clear c46
   try clear c49
   try clear c50
   try clear c51
   try clear c53
   try clear c54
   try clear hcz12_0
   try clear hcz14_0
   try clear hcz20_0
   try clear hcz21_0
   try clear hcz22_0
   try clear hcz29_0
   try clear hcz36_0
   try clear hcz39_0
   try clear hcz44_0
   try clear hcz47_0
   try clear hcz52_0
   try clear hcz55_0
   try clear hfz12_0
   try clear hfz14_0
   try clear hfz20_0
   try clear hfz21_0
   try clear hfz22_0
   try clear hfz29_0
   try clear hfz36_0
   try clear hfz39_0
   try clear hfz44_0
   try clear hfz47_0
   try clear hfz52_0
   try clear hfz55_0
   obtain ⟨kq,x52_5,rfl,HA,HJ5,Z10,Z11,Z16,Z21,BK9,BK10,BK15,BK20,HB⟩:=hcut
   cases kq with
   | zero=>exact absurd HA.out (by simp [laws_FnRaiseWhileChain.j0])
   | succ kj5 =>
    have H:=HA.out
    clear HA
    simp only [laws_FnRaiseWhileChain.j0] at H
    by_cases c57 : x52_5 = true
    ·subst c57
     have H1 : ((laws_equalHeap.f kj5 t11 t16).bind fun t22=>(if t22 = true then (some (t14 == t19)) else (some false))) = some r:=by rw [if_pos rfl] at H;exact H
     clear H
     have H:=H1
     clear H1
     replace H:=Option.bind_eq_some_iff.mp H
     obtain ⟨t22,A580,H⟩:=H
     try dsimp only at H
     have A58:=a0_ A580
     clear A580
     by_cases c59 : t22 = true
     ·subst c59
      have H1 : (some (t14 == t19)) = some r:=by rw [if_pos rfl] at H;exact H
      clear H
      have H:=H1
      clear H1
      obtain rfl:=Option.some.inj H
      have hnb60:=NB15_9.out
      have hnc60:=NB9_15.out
      have hnb61:=NB15_10.out
      have hnc61:=NB10_15.out
      have hnb62:=NB15_20.out
      have hnc62:=NB20_15.out
      have hcz63_0 : wc.cell? ⟨gb15,0,none⟩ = some (.slice Ao17 t11.length co17):=(blk_cell BK15.out 0).trans rfl
      have hfz63_0:=blk_frozen BK15.out 0
      have hnb64:=NB20_9.out
      have hnc64:=NB9_20.out
      have hnb65:=NB20_10.out
      have hnc65:=NB10_20.out
      have hcz66_0 : wc.cell? ⟨gb20,0,none⟩ = some (.slice Ao25 t16.length co25):=(blk_cell BK20.out 0).trans rfl
      have hfz66_0:=blk_frozen BK20.out 0
      go_wp2_with (first | ((with_reducible refine gate_callee (f:=19) rfl ?_);refine goesL_ (some 55) rfl rfl Try.func19 (by kernel_rfl) rfl #[.agg #[.slice Ao17 t11.length co17],.agg #[.slice Ao25 t16.length co25]] rfl lm_ ?_;(with_reducible refine (laws_equalHeap.calls kj5 _ _ t11 _ _ t16 true _ ?side1 ?side2 ?side3 ?side4 A58.out).mono ?_);(case side1=>exact cc_ (Kd.R_reads' Z16.out).2.2);(case side2=>exact (Kd.R_reads' Z16.out).2.1);(case side3=>exact cc_ (Kd.R_reads' Z21.out).2.2);(case side4=>exact (Kd.R_reads' Z21.out).2.1);rintro e w67 ⟨rfl,hb⟩;refine ⟨_,rfl,?_⟩;replace Z10:=rb_ Z10 hb;replace Z11:=rb_ Z11 hb;replace Z16:=rb_ Z16 hb;replace Z21:=rb_ Z21 hb;replace BK9:=kb_ BK9 hb;replace BK10:=kb_ BK10 hb;replace BK15:=kb_ BK15 hb;replace BK20:=kb_ BK20 hb;replace HB:=a0_ (below_step hb_ hb);(try clear hb);(try clear hb2);(try clear hk);(try clear hi)))
      go_ret
      exact ⟨by first | rfl | (simp [errW_none,errW_some] <;> rfl) | (simp [*,errW_none,errW_some] <;> rfl),hb_⟩
     ·replace c59:=Bool.eq_false_iff.mpr c59
      subst c59
      have H1 : (some false) = some r:=by rw [if_neg (show ¬ (false = true) by decide)] at H;exact H
      clear H
      have H:=H1
      clear H1
      obtain rfl:=Option.some.inj H
      have hnb68:=NB15_9.out
      have hnc68:=NB9_15.out
      have hnb69:=NB15_10.out
      have hnc69:=NB10_15.out
      have hnb70:=NB15_20.out
      have hnc70:=NB20_15.out
      have hcz71_0 : wc.cell? ⟨gb15,0,none⟩ = some (.slice Ao17 t11.length co17):=(blk_cell BK15.out 0).trans rfl
      have hfz71_0:=blk_frozen BK15.out 0
      have hnb72:=NB20_9.out
      have hnc72:=NB9_20.out
      have hnb73:=NB20_10.out
      have hnc73:=NB10_20.out
      have hcz74_0 : wc.cell? ⟨gb20,0,none⟩ = some (.slice Ao25 t16.length co25):=(blk_cell BK20.out 0).trans rfl
      have hfz74_0:=blk_frozen BK20.out 0
      go_wp2_with (first | ((with_reducible refine gate_callee (f:=19) rfl ?_);refine goesL_ (some 55) rfl rfl Try.func19 (by kernel_rfl) rfl #[.agg #[.slice Ao17 t11.length co17],.agg #[.slice Ao25 t16.length co25]] rfl lm_ ?_;(with_reducible refine (laws_equalHeap.calls kj5 _ _ t11 _ _ t16 false _ ?side1 ?side2 ?side3 ?side4 A58.out).mono ?_);(case side1=>exact cc_ (Kd.R_reads' Z16.out).2.2);(case side2=>exact (Kd.R_reads' Z16.out).2.1);(case side3=>exact cc_ (Kd.R_reads' Z21.out).2.2);(case side4=>exact (Kd.R_reads' Z21.out).2.1);rintro e w75 ⟨rfl,hb⟩;refine ⟨_,rfl,?_⟩;replace Z10:=rb_ Z10 hb;replace Z11:=rb_ Z11 hb;replace Z16:=rb_ Z16 hb;replace Z21:=rb_ Z21 hb;replace BK9:=kb_ BK9 hb;replace BK10:=kb_ BK10 hb;replace BK15:=kb_ BK15 hb;replace BK20:=kb_ BK20 hb;replace HB:=a0_ (below_step hb_ hb);(try clear hb);(try clear hb2);(try clear hk);(try clear hi)))
      go_ret
      exact ⟨by first | rfl | (simp [errW_none,errW_some] <;> rfl) | (simp [*,errW_none,errW_some] <;> rfl),hb_⟩
    ·replace c57:=Bool.eq_false_iff.mpr c57
     subst c57
     have H1 : (if t7 = t8 then (some true) else ((impl_ContextChain.f t1 t4 t8).bind fun t26=>(laws_FnRaiseWhileChain.l0 kj5 t7 (([t7] : List Int)) t26 0 t1 t11))) = some r:=by rw [if_neg (show ¬ (false = true) by decide)] at H;exact H
     clear H
     have H:=H1
     clear H1
     by_cases c76 : t7 = t8
     ·rw [if_pos c76] at H
      have c76b0 : (t7 == t8) = true:=beq_iff_eq.mpr c76
      have c76b1 : (t7 != t8) = false:=bne_eq_false_iff_eq.mpr c76
      clear c76
      obtain rfl:=Option.some.inj H
      go_wp2
      go_ret
      exact ⟨by first | rfl | (simp [errW_none,errW_some] <;> rfl) | (simp [*,errW_none,errW_some] <;> rfl),hb_⟩
     ·rw [if_neg c76] at H
      have c76b0 : (t7 == t8) = false:=beq_eq_false_iff_ne.mpr c76
      have c76b1 : (t7 != t8) = true:=bne_iff_ne.mpr c76
      obtain ⟨y23,hy23⟩ : ∃ y_ : List Int,y_ = (([t7] : List Int)):=⟨_,rfl⟩
      replace H : ((impl_ContextChain.f t1 t4 t8).bind fun t26=>(laws_FnRaiseWhileChain.l0 kj5 t7 y23 t26 0 t1 t11)) = some r:=by first | (rw [hy23];with_reducible exact H) | (have H2_:=(Option.bind_some _ _).symm.trans H;rw [hy23];with_reducible exact H2_) | (have H2_:=(Option.bind_some _ _).symm.trans H;with_reducible exact H2_) | with_reducible exact H | (rw [hy23];exact H) | exact H
      have Ny23:=a0_ hy23
      clear hy23
      replace H:=Option.bind_eq_some_iff.mp H
      obtain ⟨t26,A770,H⟩:=H
      try dsimp only at H
      have A77:=a0_ A770
      clear A770
      have H':=a0_ H
      clear H
      go_wp2_with (first | ((with_reducible refine gate_dst (N:=65) rfl ?_);refine Kd.R_lit (Kd.int .i64) _ 3 ?hg (N:=65) ?hd (xs:=([t7] : List Int)) (inner:=[.int .i64 t7]) (ok:=fun _=>True) (okp:=fun _=>True) ?hr ?hp (fun _ hk=>hk) trivial (Below.refl _ _) (Nat.le_refl _) (by simp) ?_;(case hd=>rfl);(case hg=>rfl);(case hr=>first | (go_simp;done) | (go_simp;rfl));(case hp=>exact (Reps.one (show Kd.M (Kd.int .i64) _ _ _ t7 [.int .i64 t7] from rfl) (Reps.none _ _)));intro v24 w78 ho79 hb hg_ hnew_;clear hg_ hnew_;(first | rw [← Ny23.out] at ho79 | (simp only [Int.reduceToNat] at ho79;rw [← Ny23.out] at ho79));replace Z10:=rb_ Z10 hb;replace Z11:=rb_ Z11 hb;replace Z16:=rb_ Z16 hb;replace Z21:=rb_ Z21 hb;have HO25:=a0_ (Kd.R_lower ho79 (below_size hb_));replace BK9:=kb_ BK9 hb;replace BK10:=kb_ BK10 hb;replace BK15:=kb_ BK15 hb;replace BK20:=kb_ BK20 hb;replace HB:=a0_ (below_step hb_ hb);clear hb ho79;have hnb80:=NB9_10.out;have hnc80:=NB10_9.out;have hnb81:=NB9_15.out;have hnc81:=NB15_9.out;have hnb82:=NB9_20.out;have hnc82:=NB20_9.out;have hcz83_0 : w78.cell? ⟨gb9,0,none⟩ = some (.slice Ao10 t1.length co10):=(blk_cell BK9.out 0).trans rfl;have hfz83_0:=blk_frozen BK9.out 0;have hnb84:=NB10_15.out;have hnc84:=NB15_10.out;have hnb85:=NB10_20.out;have hnc85:=NB20_10.out;have hcz86_0 : w78.cell? ⟨gb10,0,none⟩ = some (.slice Ao13 t4.length co13):=(blk_cell BK10.out 0).trans rfl;have hfz86_0:=blk_frozen BK10.out 0) | ((with_reducible refine gate_callee (f:=26) rfl ?_);refine goesL_ (some 69) rfl rfl Try.func26 (by kernel_rfl) rfl #[.agg #[.slice Ao10 t1.length co10],.agg #[.slice Ao13 t4.length co13],.int .i64 t8] rfl lm_ ?_;(with_reducible refine (impl_ContextChain.calls _ _ t1 _ _ t4 t8 t26 _ ?side1 ?side2 ?side3 ?side4 A77.out).mono ?_);(case side1=>exact cc_ (Kd.R_reads' Z10.out).2.2);(case side2=>exact (Kd.R_reads' Z10.out).2.1);(case side3=>exact cc_ (Kd.R_reads' Z11.out).2.2);(case side4=>exact (Kd.R_reads' Z11.out).2.1);rintro e w87 ⟨v27,rfl,ho0,hb⟩;refine ⟨_,rfl,?_⟩;have n0_:=rb_ Z10 hb;have n1_:=rb_ Z11 hb;have n2_:=rb_ Z16 hb;have n3_:=rb_ Z21 hb;have n4_:=a0_ (Kd.R_elder' (rr_ HO25.out) (Kd.R_base ho0) hb);have n5_:=a0_ (Kd.R_lower (Kd.R_new' ho0 (Kd.R_lt (rr_ HO25.out))) (below_size hb_));have n6_:=kb_ BK9 hb;have n7_:=kb_ BK10 hb;have n8_:=kb_ BK15 hb;have n9_:=kb_ BK20 hb;have n10_:=a0_ (below_step hb_ hb);clear Z10 Z11;clear Z16 Z21;clear HO25 BK9;clear BK10 BK15;clear BK20 HB;have Z10:=n0_;have Z11:=n1_;have Z16:=n2_;have Z21:=n3_;have HO25:=n4_;have HO28:=n5_;have BK9:=n6_;have BK10:=n7_;have BK15:=n8_;have BK20:=n9_;have HB:=n10_;clear n0_ n1_ n2_ n3_ n4_ n5_ n6_ n7_ n8_ n9_ n10_;(try clear hb);(try clear ho0)))
      go_loopg [11,13] kj5 (fun kq v11 v13 w'=>∃ (x11_2 : List Int) (x13_2 : Int),v13 = .int .i64 x13_2 ∧ Aside0 (laws_FnRaiseWhileChain.l0 kq t7 x11_2 t26 x13_2 t1 t11 = some r) ∧ Aside0 (kq ≤ kj5) ∧ Aside0 (Kd.R (Kd.int .i64) 3 w' w.heap.size (fun k_=>some k_ ≠ (v27 : Value).ownBlock) v11 x11_2) ∧ Aside0 (Kd.R (Kd.int .i64) 3 w' w.heap.size (fun k_=>some k_ ≠ (v11 : Value).ownBlock) v27 t26) ∧ Aside0 (Kd.R k87 87 w' w.heap.size (fun _=>True) (.slice Ao10 t1.length co10) t1) ∧ Aside0 (Kd.R k43 43 w' w.heap.size (fun k_=>some k_ ≠ ((.slice Ao17 t11.length co17) : Value).ownBlock ∧ some k_ ≠ ((.slice Ao25 t16.length co25) : Value).ownBlock) (.slice Ao13 t4.length co13) t4) ∧ Aside0 (Kd.R k43 43 w' w.heap.size (fun k_=>some k_ ≠ ((.slice Ao13 t4.length co13) : Value).ownBlock ∧ some k_ ≠ ((.slice Ao25 t16.length co25) : Value).ownBlock) (.slice Ao17 t11.length co17) t11) ∧ Aside0 (Kd.R k43 43 w' w.heap.size (fun k_=>some k_ ≠ ((.slice Ao13 t4.length co13) : Value).ownBlock ∧ some k_ ≠ ((.slice Ao17 t11.length co17) : Value).ownBlock) (.slice Ao25 t16.length co25) t16) ∧ Aside0 (w'.heap[gb9]? = some (.cells #[(.slice Ao10 t1.length co10)] 25 (0,0))) ∧ Aside0 (w'.heap[gb10]? = some (.cells #[(.slice Ao13 t4.length co13)] 28 (0,0))) ∧ Aside0 (w'.heap[gb15]? = some (.cells #[(.slice Ao17 t11.length co17)] 28 (0,0))) ∧ Aside0 (w'.heap[gb20]? = some (.cells #[(.slice Ao25 t16.length co25)] 28 (0,0))) ∧ Aside0 (Below w.heap.size w w'))
      case atStart=>exact ⟨(y23),(0),(by first | rfl | (simp;done) | (simp [*];done)),H',⟨Nat.le_refl _⟩,⟨by (with_reducible repeat (first | apply Kd.R_alloc | apply Kd.R_drewN | apply Kd.R_drew));exact Kd.R_mono HO25.out (fun _ hk=>hk.2)⟩,⟨by (with_reducible repeat (first | apply Kd.R_alloc | apply Kd.R_drewN | apply Kd.R_drew));exact Kd.R_mono HO28.out (fun _ hk=>hk.2)⟩,⟨by (with_reducible repeat (first | apply Kd.R_alloc | apply Kd.R_drewN | apply Kd.R_drew));exact Z10.out⟩,⟨by (with_reducible repeat (first | apply Kd.R_alloc | apply Kd.R_drewN | apply Kd.R_drew));exact Z11.out⟩,⟨by (with_reducible repeat (first | apply Kd.R_alloc | apply Kd.R_drewN | apply Kd.R_drew));exact Z16.out⟩,⟨by (with_reducible repeat (first | apply Kd.R_alloc | apply Kd.R_drewN | apply Kd.R_drew));exact Z21.out⟩,⟨by (with_reducible repeat (first | refine blk_drewN ?_ _ | refine blk_drew ?_ | refine blk_alloc ?_ _));exact BK9.out⟩,⟨by (with_reducible repeat (first | refine blk_drewN ?_ _ | refine blk_drew ?_ | refine blk_alloc ?_ _));exact BK10.out⟩,⟨by (with_reducible repeat (first | refine blk_drewN ?_ _ | refine blk_drew ?_ | refine blk_alloc ?_ _));exact BK15.out⟩,⟨by (with_reducible repeat (first | refine blk_drewN ?_ _ | refine blk_drew ?_ | refine blk_alloc ?_ _));exact BK20.out⟩,⟨hb_⟩⟩
      case round =>
       clear H'
       try clear c1
       try clear c2
       try clear c2b0
       try clear c2b1
       try clear p2
       try clear c3
       try clear c4
       try clear c5
       try clear c6
       try clear c7
       try clear c8
       try clear c11
       try clear c18
       try clear c19
       try clear c26
       try clear c27
       try clear c28
       try clear c29
       try clear c31
       try clear c32
       try clear c32b0
       try clear c32b1
       try clear c32b2
       try clear c33
       try clear c34
       try clear c35
       try clear c37
       try clear c38
       try clear c41
       try clear c42
       try clear c43
       try clear c45
       try clear c46
       try clear c49
       try clear c50
       try clear c51
       try clear c53
       try clear c54
       try clear c57
       try clear c59
       try clear c60
       try clear c61
       try clear c62
       try clear c64
       try clear c65
       try clear c68
       try clear c69
       try clear c70
       try clear c72
       try clear c73
       try clear c76
       try clear c76b0
       try clear c76b1
       try clear c80
       try clear c81
       try clear c82
       try clear c84
       try clear c85
       try clear hcz12_0
       try clear hcz14_0
       try clear hcz20_0
       try clear hcz21_0
       try clear hcz22_0
       try clear hcz29_0
       try clear hcz36_0
       try clear hcz39_0
       try clear hcz44_0
       try clear hcz47_0
       try clear hcz52_0
       try clear hcz55_0
       try clear hcz63_0
       try clear hcz66_0
       try clear hcz71_0
       try clear hcz74_0
       try clear hcz83_0
       try clear hcz86_0
       try clear hfz12_0
       try clear hfz14_0
       try clear hfz20_0
       try clear hfz21_0
       try clear hfz22_0
       try clear hfz29_0
       try clear hfz36_0
       try clear hfz39_0
       try clear hfz44_0
       try clear hfz47_0
       try clear hfz52_0
       try clear hfz55_0
       try clear hfz63_0
       try clear hfz66_0
       try clear hfz71_0
       try clear hfz74_0
       try clear hfz83_0
       try clear hfz86_0
       try clear p2
       obtain ⟨x11_2,x13_2,rfl,HA,HK2,HO_11,HO_12,Z10,Z11,Z16,Z21,BK9,BK10,BK15,BK20,HB⟩:=hrel
       cases gk with
       | zero=>exact absurd HA.out (by simp [laws_FnRaiseWhileChain.l0])
       | succ k2 =>
        have H:=HA.out
        clear HA
        simp only [laws_FnRaiseWhileChain.l0] at H
        by_cases c88 : x13_2 < (t26.length : Int)
        ·rw [if_pos c88] at H
         have c88b0 : decide (x13_2 < (t26.length : Int)) = true:=decide_eq_true c88
         clear c88
         by_cases c89 : 0 ≤ x13_2
         ·rw [if_pos c89] at H
          have c89b0 : decide (0 ≤ x13_2) = true:=decide_eq_true c89
          clear c89
          by_cases c90 : (rd t26 x13_2) = t7
          ·rw [if_pos c90] at H
           have c90b0 : ((rd t26 x13_2) == t7) = true:=beq_iff_eq.mpr c90
           have c90b1 : ((rd t26 x13_2) != t7) = false:=bne_eq_false_iff_eq.mpr c90
           clear c90
           replace H:=Option.bind_eq_some_iff.mp H
           obtain ⟨t30,A910,H⟩:=H
           try dsimp only at H
           have A91:=a0_ A910
           clear A910
           replace H:=Option.bind_eq_some_iff.mp H
           obtain ⟨t33,A920,H⟩:=H
           replace H : (some t33) = some r:=H
           have A92:=a0_ A920
           clear A920
           obtain rfl:=Option.some.inj H
           obtain ⟨Ao93,co93,eo93⟩:=Kd.R_slice HO_12.out
           subst eo93
           have p29 : 0 ≤ (x13_2 : Int):=of_decide_eq_true (by first | (with_reducible assumption) | assumption)
           have q29 : x13_2 < (t26.length : Int):=of_decide_eq_true (by first | (with_reducible assumption) | assumption)
           obtain ⟨ad29,e29,hx29_0⟩:=Kd.at_int (Kd.R_reads' HO_12.out).2.2 x13_2 p29 q29
           cases e29
           replace p29:=eq_true p29
           replace q29:=eq_true q29
           have hnb94:=NB9_10.out
           have hnc94:=NB10_9.out
           have hnb95:=NB9_15.out
           have hnc95:=NB15_9.out
           have hnb96:=NB9_20.out
           have hnc96:=NB20_9.out
           have hcz97_0 : wr.cell? ⟨gb9,0,none⟩ = some (.slice Ao10 t1.length co10):=(blk_cell BK9.out 0).trans rfl
           have hfz97_0:=blk_frozen BK9.out 0
           have hnb98:=NB15_10.out
           have hnc98:=NB10_15.out
           have hnb99:=NB15_20.out
           have hnc99:=NB20_15.out
           have hcz100_0 : wr.cell? ⟨gb15,0,none⟩ = some (.slice Ao17 t11.length co17):=(blk_cell BK15.out 0).trans rfl
           have hfz100_0:=blk_frozen BK15.out 0
           go_wp2_with (first | ((with_reducible refine gate_callee (f:=26) rfl ?_);refine goesL_ (some 94) rfl rfl Try.func26 (by kernel_rfl) rfl #[.agg #[.slice Ao10 t1.length co10],.agg #[.slice Ao17 t11.length co17],.int .i64 t7] rfl lm_ ?_;(with_reducible refine (impl_ContextChain.calls _ _ t1 _ _ t11 t7 t30 _ ?side1 ?side2 ?side3 ?side4 A91.out).mono ?_);(case side1=>exact cc_ (Kd.R_reads' Z10.out).2.2);(case side2=>exact (Kd.R_reads' Z10.out).2.1);(case side3=>exact cc_ (Kd.R_reads' Z16.out).2.2);(case side4=>exact (Kd.R_reads' Z16.out).2.1);rintro e w101 ⟨v31,rfl,ho0,hb⟩;refine ⟨_,rfl,?_⟩;have n0_:=a0_ (Kd.R_elder' (rr_ HO_11.out) (Kd.R_base ho0) hb);have n1_:=a0_ (Kd.R_elder' (rr_ HO_12.out) (Kd.R_base ho0) hb);have n2_:=rb_ Z10 hb;have n3_:=rb_ Z11 hb;have n4_:=rb_ Z16 hb;have n5_:=rb_ Z21 hb;have n6_:=a0_ (Kd.R_lower (Kd.R_new' (Kd.R_new' ho0 (Kd.R_lt (rr_ HO_11.out))) (Kd.R_lt (rr_ HO_12.out))) (below_size hb_));have n7_:=kb_ BK9 hb;have n8_:=kb_ BK10 hb;have n9_:=kb_ BK15 hb;have n10_:=kb_ BK20 hb;have n11_:=a0_ (below_step hb_ hb);clear HO_11 HO_12;clear Z10 Z11;clear Z16 Z21;clear BK9 BK10;clear BK15 BK20 HB;have HO_11:=n0_;have HO_12:=n1_;have Z10:=n2_;have Z11:=n3_;have Z16:=n4_;have Z21:=n5_;have HO32:=n6_;have BK9:=n7_;have BK10:=n8_;have BK15:=n9_;have BK20:=n10_;have HB:=n11_;clear n0_ n1_ n2_ n3_ n4_ n5_ n6_ n7_ n8_ n9_ n10_ n11_;(try clear hb);(try clear ho0);obtain ⟨Ao102,co102,eo102⟩:=Kd.R_slice HO32.out;subst eo102;obtain ⟨Ao103,co103,eo103⟩:=Kd.R_slice HO_11.out;subst eo103) | ((with_reducible refine gate_callee (f:=12) rfl ?_);refine goesL_ (some 96) rfl rfl Try.func12 (by kernel_rfl) rfl #[.slice Ao102 t30.length co102,.slice Ao103 x11_2.length co103] rfl lm_ ?_;(with_reducible refine (laws_equalInts.calls k2 _ _ t30 _ _ x11_2 t33 _ ?side1 ?side2 ?side3 ?side4 A92.out).mono ?_);(case side1=>exact cc_ (Kd.R_reads' HO32.out).2.2);(case side2=>exact (Kd.R_reads' HO32.out).2.1);(case side3=>exact cc_ (Kd.R_reads' HO_11.out).2.2);(case side4=>exact (Kd.R_reads' HO_11.out).2.1);rintro e w' ⟨rfl,⟨nd,rfl⟩⟩;refine ⟨_,rfl,?_⟩))
           go_ret
           exact ⟨by first | rfl | (simp [errW_none,errW_some] <;> rfl) | (simp [*,errW_none,errW_some] <;> rfl),hb_⟩
          ·rw [if_neg c90] at H
           have c90b0 : ((rd t26 x13_2) == t7) = false:=beq_eq_false_iff_ne.mpr c90
           have c90b1 : ((rd t26 x13_2) != t7) = true:=bne_iff_ne.mpr c90
           by_cases c104 : x11_2.length < 17592186044416
           ·rw [if_pos c104] at H
            have LMc104:=a0_ c104
            clear c104
            obtain ⟨y35,hy35⟩ : ∃ y_ : List Int,y_ = (x11_2 ++ [rd t26 x13_2]):=⟨_,rfl⟩
            replace H : (laws_FnRaiseWhileChain.l0 k2 t7 y35 t26 (wrap64 (x13_2 + 1)) t1 t11) = some r:=by first | (rw [hy35];with_reducible exact H) | (have H2_:=(Option.bind_some _ _).symm.trans H;rw [hy35];with_reducible exact H2_) | (have H2_:=(Option.bind_some _ _).symm.trans H;with_reducible exact H2_) | with_reducible exact H | (rw [hy35];exact H) | exact H
            have Ny35:=a0_ hy35
            clear hy35
            have H':=a0_ H
            clear H
            obtain ⟨Ao105,co105,eo105⟩:=Kd.R_slice HO_12.out
            subst eo105
            have p29 : 0 ≤ (x13_2 : Int):=of_decide_eq_true (by first | (with_reducible assumption) | assumption)
            have q29 : x13_2 < (t26.length : Int):=of_decide_eq_true (by first | (with_reducible assumption) | assumption)
            obtain ⟨ad29,e29,hx29_0⟩:=Kd.at_int (Kd.R_reads' HO_12.out).2.2 x13_2 p29 q29
            cases e29
            replace p29:=eq_true p29
            replace q29:=eq_true q29
            have p34 : 0 ≤ (x13_2 : Int):=of_decide_eq_true (by first | (with_reducible assumption) | assumption)
            have q34 : x13_2 < (t26.length : Int):=of_decide_eq_true (by first | (with_reducible assumption) | assumption)
            obtain ⟨ad34,e34,hx34_0⟩:=Kd.at_int (Kd.R_reads' HO_12.out).2.2 x13_2 p34 q34
            obtain rfl : ad29 = ad34:=(by injection e34)
            replace p34:=eq_true p34
            replace q34:=eq_true q34
            go_wp2_with (first | ((with_reducible refine gate_builtin (b:=.append) (xs:=#[.tmp 84,.tmp 89]) rfl ?_);at_builtin;refine Kd.R_append (Kd.int .i64) (w0:=w) w.heap.size rfl (.tmp 84) (.tmp 89) 31 3 (.int .i64 0) 8 rfl Try.underlying31 info3 rfl (by decide) (by omega) u11 x11_2 (rd t26 x13_2) [.int .i64 (rd t26 x13_2)] (fun k_=>some k_ ≠ (.slice (some ad29) t26.length co105 : Value).ownBlock) (fun _=>False) rfl rfl ?aP (fun _ hk=>hk.elim) ?aF ?aO ?aB ?aS ?aL ?_;(case aP=>exact rfl);(case aB=>exact hb_);(case aF=>exact (fun k_ hk=>Kd.fresh' (Kd.R_lt (rr_ HO_12.out)) k_ hk));(case aO=>exact (rr_ HO_11.out));(case aS=>exact (below_size hb_));(case aL=>have:=LMc104.out;omega);intro v36 w106 ho hb hg hat;rw [← Ny35.out] at ho;replace HO_12:=a0_ (Kd.R_after (ok:=(fun _=>True)) (rm_ HO_12.out (fun _ hk=>⟨trivial,hk⟩)) hg hat);replace Z10:=a0_ (Kd.R_over' (rr_ Z10.out) (Kd.R_typed (rr_ HO_11.out)) (by decide) hg);replace Z11:=a0_ (Kd.R_over' (rr_ Z11.out) (Kd.R_typed (rr_ HO_11.out)) (by decide) hg);replace Z16:=a0_ (Kd.R_over' (rr_ Z16.out) (Kd.R_typed (rr_ HO_11.out)) (by decide) hg);replace Z21:=a0_ (Kd.R_over' (rr_ Z21.out) (Kd.R_typed (rr_ HO_11.out)) (by decide) hg);replace BK9:=a0_ (blk_grown (bb_ BK9.out) hg (Kd.R_ne HO_11.out BK9.out (by decide)));replace BK10:=a0_ (blk_grown (bb_ BK10.out) hg (Kd.R_ne HO_11.out BK10.out (by decide)));replace BK15:=a0_ (blk_grown (bb_ BK15.out) hg (Kd.R_ne HO_11.out BK15.out (by decide)));replace BK20:=a0_ (blk_grown (bb_ BK20.out) hg (Kd.R_ne HO_11.out BK20.out (by decide)));have HO37:=a0_ (ho);replace HB:=a0_ (hb);clear HO_11;clear ho hb hg hat))
            go_roundg k2
            case measure=>have:=HJ5.out;have:=HK2.out;omega
            case rel=>exact ⟨(y35),(wrap64 (x13_2 + 1)),(by first | rfl | (simp;done) | (simp [*];done)),H',⟨by have:=HJ5.out;have:=HK2.out;omega⟩,⟨by (with_reducible repeat (first | apply Kd.R_alloc | apply Kd.R_drewN | apply Kd.R_drew));exact HO37.out⟩,⟨by (with_reducible repeat (first | apply Kd.R_alloc | apply Kd.R_drewN | apply Kd.R_drew));exact Kd.R_mono HO_12.out (fun _ hk=>hk.2)⟩,⟨by (with_reducible repeat (first | apply Kd.R_alloc | apply Kd.R_drewN | apply Kd.R_drew));exact Z10.out⟩,⟨by (with_reducible repeat (first | apply Kd.R_alloc | apply Kd.R_drewN | apply Kd.R_drew));exact Z11.out⟩,⟨by (with_reducible repeat (first | apply Kd.R_alloc | apply Kd.R_drewN | apply Kd.R_drew));exact Z16.out⟩,⟨by (with_reducible repeat (first | apply Kd.R_alloc | apply Kd.R_drewN | apply Kd.R_drew));exact Z21.out⟩,⟨by (with_reducible repeat (first | refine blk_drewN ?_ _ | refine blk_drew ?_ | refine blk_alloc ?_ _));exact BK9.out⟩,⟨by (with_reducible repeat (first | refine blk_drewN ?_ _ | refine blk_drew ?_ | refine blk_alloc ?_ _));exact BK10.out⟩,⟨by (with_reducible repeat (first | refine blk_drewN ?_ _ | refine blk_drew ?_ | refine blk_alloc ?_ _));exact BK15.out⟩,⟨by (with_reducible repeat (first | refine blk_drewN ?_ _ | refine blk_drew ?_ | refine blk_alloc ?_ _));exact BK20.out⟩,⟨hb_⟩⟩
           ·rw [if_neg c104] at H
            exact absurd H (by simp)
         ·rw [if_neg c89] at H
          exact absurd H (by simp)
        ·rw [if_neg c88] at H
         have c88b0 : decide (x13_2 < (t26.length : Int)) = false:=decide_eq_false c88
         clear c88
         replace H:=Option.bind_eq_some_iff.mp H
         obtain ⟨t38,A1070,H⟩:=H
         try dsimp only at H
         have A107:=a0_ A1070
         clear A1070
         replace H:=Option.bind_eq_some_iff.mp H
         obtain ⟨t41,A1080,H⟩:=H
         replace H : (some t41) = some r:=H
         have A108:=a0_ A1080
         clear A1080
         obtain rfl:=Option.some.inj H
         obtain ⟨Ao109,co109,eo109⟩:=Kd.R_slice HO_12.out
         subst eo109
         have hnb110:=NB9_10.out
         have hnc110:=NB10_9.out
         have hnb111:=NB9_15.out
         have hnc111:=NB15_9.out
         have hnb112:=NB9_20.out
         have hnc112:=NB20_9.out
         have hcz113_0 : wr.cell? ⟨gb9,0,none⟩ = some (.slice Ao10 t1.length co10):=(blk_cell BK9.out 0).trans rfl
         have hfz113_0:=blk_frozen BK9.out 0
         have hnb114:=NB15_10.out
         have hnc114:=NB10_15.out
         have hnb115:=NB15_20.out
         have hnc115:=NB20_15.out
         have hcz116_0 : wr.cell? ⟨gb15,0,none⟩ = some (.slice Ao17 t11.length co17):=(blk_cell BK15.out 0).trans rfl
         have hfz116_0:=blk_frozen BK15.out 0
         go_wp2_with (first | ((with_reducible refine gate_callee (f:=26) rfl ?_);refine goesL_ (some 94) rfl rfl Try.func26 (by kernel_rfl) rfl #[.agg #[.slice Ao10 t1.length co10],.agg #[.slice Ao17 t11.length co17],.int .i64 t7] rfl lm_ ?_;(with_reducible refine (impl_ContextChain.calls _ _ t1 _ _ t11 t7 t38 _ ?side1 ?side2 ?side3 ?side4 A107.out).mono ?_);(case side1=>exact cc_ (Kd.R_reads' Z10.out).2.2);(case side2=>exact (Kd.R_reads' Z10.out).2.1);(case side3=>exact cc_ (Kd.R_reads' Z16.out).2.2);(case side4=>exact (Kd.R_reads' Z16.out).2.1);rintro e w117 ⟨v39,rfl,ho0,hb⟩;refine ⟨_,rfl,?_⟩;have n0_:=a0_ (Kd.R_elder' (rr_ HO_11.out) (Kd.R_base ho0) hb);have n1_:=a0_ (Kd.R_elder' (rr_ HO_12.out) (Kd.R_base ho0) hb);have n2_:=rb_ Z10 hb;have n3_:=rb_ Z11 hb;have n4_:=rb_ Z16 hb;have n5_:=rb_ Z21 hb;have n6_:=a0_ (Kd.R_lower (Kd.R_new' (Kd.R_new' ho0 (Kd.R_lt (rr_ HO_11.out))) (Kd.R_lt (rr_ HO_12.out))) (below_size hb_));have n7_:=kb_ BK9 hb;have n8_:=kb_ BK10 hb;have n9_:=kb_ BK15 hb;have n10_:=kb_ BK20 hb;have n11_:=a0_ (below_step hb_ hb);clear HO_11 HO_12;clear Z10 Z11;clear Z16 Z21;clear BK9 BK10;clear BK15 BK20 HB;have HO_11:=n0_;have HO_12:=n1_;have Z10:=n2_;have Z11:=n3_;have Z16:=n4_;have Z21:=n5_;have HO40:=n6_;have BK9:=n7_;have BK10:=n8_;have BK15:=n9_;have BK20:=n10_;have HB:=n11_;clear n0_ n1_ n2_ n3_ n4_ n5_ n6_ n7_ n8_ n9_ n10_ n11_;(try clear hb);(try clear ho0);obtain ⟨Ao118,co118,eo118⟩:=Kd.R_slice HO40.out;subst eo118;obtain ⟨Ao119,co119,eo119⟩:=Kd.R_slice HO_11.out;subst eo119) | ((with_reducible refine gate_callee (f:=12) rfl ?_);refine goesL_ (some 96) rfl rfl Try.func12 (by kernel_rfl) rfl #[.slice Ao118 t38.length co118,.slice Ao119 x11_2.length co119] rfl lm_ ?_;(with_reducible refine (laws_equalInts.calls k2 _ _ t38 _ _ x11_2 t41 _ ?side1 ?side2 ?side3 ?side4 A108.out).mono ?_);(case side1=>exact cc_ (Kd.R_reads' HO40.out).2.2);(case side2=>exact (Kd.R_reads' HO40.out).2.1);(case side3=>exact cc_ (Kd.R_reads' HO_11.out).2.2);(case side4=>exact (Kd.R_reads' HO_11.out).2.1);rintro e w' ⟨rfl,⟨nd,rfl⟩⟩;refine ⟨_,rfl,?_⟩))
         go_ret
         exact ⟨by first | rfl | (simp [errW_none,errW_some] <;> rfl) | (simp [*,errW_none,errW_some] <;> rfl),hb_⟩
def laws_FnRaiseWhileChain.Pure : Prop:=∀ (l0 : List Int),l0.length ≤ maxLen → l0.length * 1 ≤ 140737488351232 → (∀ x ∈ l0,(Lit.int .u8 x).wf = true) → ∃ k,laws_FnRaiseWhileChain.f k l0 = some true
theorem laws_FnRaiseWhileChain.walk (P : laws_FnRaiseWhileChain.Pure) (a0 : Option Addr) (len0 cap0 : Nat) (z0 : List Int) (w : World) (w0 : (a0 = none ∧ len0 = 0 ∧ cap0 = 0 ∧ z0 = []) ∨ ∃ x,a0 = some x ∧ len0 ≤ cap0 ∧ cap0 ≤ maxLen ∧ z0.length = cap0 ∧ (∀ i,i < z0.length → w.cell? (x.add i) = some (.int .u8 (z0.getD i 0))) ∧ ∀ n ∈ z0,(Lit.int .u8 n).wf = true) (y0 : len0 * 1 ≤ 140737488351232) :
  Calls Try.prog 8 #[.slice a0 len0 cap0] w fun e w'=>e = .returned (.bool true) ∧ Below w.heap.size w w':=by
 obtain ⟨l0,rfl,hr0,hm0,hw0,hc0⟩:=ReadsInt.ofRowC w0
 obtain ⟨k,h⟩:=P l0 hm0 y0 hw0
 refine (laws_FnRaiseWhileChain.calls k _ _ l0 true w (Kd.C_of_reads (d:=(0 : Int)) (h1:=fun _=>rfl) hr0) hc0 h).mono ?_
 rintro e w' ⟨rfl,hd⟩
 exact ⟨rfl,hd⟩
end Go.Proofs.Ytmiholmfbjalfaa.P
namespace Go.Proofs.Ytmiholmfbjalfaa.P
open Go.RowKit Go.Proofs.YtmiholmfbjalfaaW.PrintWords Go.Proofs.YtmiholmfbjalfaaW.PrintLast Go.Proofs.YtmiholmfbjalfaaW.PrintMore
attribute [local go_sem] max2_int min2_int max_two min_two max_three min_three max_four min_four
set_option linter.unusedVariables false
set_option linter.unusedSimpArgs false
theorem chain_link (next : Int → Int) : ∀ (d : Nat) (out : List Int) (x : Int) (k : Nat),k + 1 < (chainL next d out x).length → (chainL next d out x).getD (k + 1) 0 = next ((chainL next d out x).getD k 0):=by
 intro d
 induction d with
 | zero=>intro out x k hk;simp [chainL] at hk
 | succ d ih =>
  intro out x k hk
  rw [chainL] at hk ⊢
  by_cases hc : 0 ≤ x ∧ out.contains x = false
  ·rw [if_pos hc] at hk ⊢
   rw [List.length_cons] at hk
   cases k with
   | zero =>
    cases d with
    | zero=>simp [chainL] at hk
    | succ d =>
     rw [chainL] at hk ⊢
     by_cases hc2 : 0 ≤ next x ∧ (out ++ [x]).contains (next x) = false
     ·rw [if_pos hc2]
      simp
     ·rw [if_neg hc2] at hk
      simp at hk
   | succ k=>exact ih (out ++ [x]) (next x) k (by omega)
  ·rw [if_neg hc] at hk
   simp at hk
theorem chain_nodup (next : Int → Int) : ∀ (d : Nat) (out : List Int) (x : Int),(chainL next d out x).Nodup:=by
 intro d
 induction d with
 | zero=>intro out x;exact List.nodup_nil
 | succ d ih =>
  intro out x
  rw [chainL]
  split
  ·refine List.nodup_cons.2 ⟨fun hm=>?_,ih _ _⟩
   have:=(chain_mem next d (out ++ [x]) (next x) x hm).2
   rw [show (out ++ [x]).contains x = true by rw [List.contains_iff_mem];simp] at this
   cases this
  ·exact List.nodup_nil
theorem chain_last (next : Int → Int) (N : Nat) (hn : ∀ x : Int,0 ≤ x → x < (N : Int) → next x < (N : Int)) : ∀ (d : Nat) (out : List Int) (x : Int),x < (N : Int) → restN N out ≤ d → chainL next d out x ≠ [] → next (lastI (chainL next d out x)) < 0 ∨ next (lastI (chainL next d out x)) ∈ out ++ chainL next d out x:=by
 intro d
 induction d with
 | zero=>intro out x _ _ hne;exact absurd rfl hne
 | succ d ih =>
  intro out x hx hr hne
  rw [chainL] at hne ⊢
  by_cases hc : 0 ≤ x ∧ out.contains x = false
  ·rw [if_pos hc] at hne ⊢
   have hlt:=restN_lt hc.1 hx hc.2
   cases hq : chainL next d (out ++ [x]) (next x) with
   | nil =>
    have e : lastI [x] = x:=by simp [lastI]
    rw [e]
    by_cases h0 : 0 ≤ next x
    ·right
     have hin : (out ++ [x]).contains (next x) = true:=by
      cases hz : (out ++ [x]).contains (next x) with
      | true=>rfl
      | false =>
       cases d with
       | zero =>
        have:=restN_zero (n:=N) (out:=out ++ [x]) h0 (hn x hc.1 hx) (by omega)
        rw [this] at hz
        cases hz
       | succ d =>
        rw [chainL,if_pos ⟨h0,hz⟩] at hq
        cases hq
     rwa [List.contains_iff_mem] at hin
    ·left;omega
   | cons z r =>
    rw [lastI_cons,← hq]
    rcases ih (out ++ [x]) (next x) (hn x hc.1 hx) (by omega) (by rw [hq];simp) with h2 | h2
    ·exact Or.inl h2
    ·right
     rw [List.append_assoc] at h2
     exact h2
  ·rw [if_neg hc] at hne
   exact absurd rfl hne
theorem shwL_chain (h : List Fau) (f : Int) : shwL h f = chainL (shwN h) h.length [] f:=by
 unfold shwL
 rw [walkL_chain]
 rfl
section
variable {t : List Cls} {h : List Fau} {f : Int}
theorem shw_rng (hv : vH t h = true) (x : Int) (h0 : 0 ≤ x) (h1 : x < (h.length : Int)) : -1 ≤ shwN h x ∧ shwN h x < (h.length : Int):=fsH_shw (vH_parts hv).1 x h0 h1
theorem shw_head (h0 : 0 ≤ f) (h1 : f < (h.length : Int)) : (shwL h f).getD 0 0 = f:=by
 rw [shwL_chain]
 obtain ⟨n,hn⟩ : ∃ n,h.length = n + 1:=⟨h.length - 1,by omega⟩
 rw [hn,chainL,if_pos ⟨h0,by simp⟩]
 rfl
theorem shw_link (k : Nat) (hk : k + 1 < (shwL h f).length) : (shwL h f).getD (k + 1) 0 = shwN h ((shwL h f).getD k 0):=by
 rw [shwL_chain] at hk ⊢
 exact chain_link _ _ _ _ k hk
theorem shw_new (k : Nat) (hk : k < (shwL h f).length) : ((shwL h f).take k).contains ((shwL h f).getD k 0) = false:=by
 cases hq : ((shwL h f).take k).contains ((shwL h f).getD k 0) with
 | false=>rfl
 | true =>
  rw [List.contains_iff_mem,List.mem_take_iff_getElem] at hq
  obtain ⟨j,hj,e⟩:=hq
  have hnd:=chain_nodup (shwN h) h.length [] f
  rw [← shwL_chain] at hnd
  rw [List.getD_eq_getElem?_getD,List.getElem?_eq_getElem hk] at e
  have:=(List.getElem_inj hnd).1 e
  omega
theorem shw_last (hv : vH t h = true) (h0 : 0 ≤ f) (h1 : f < (h.length : Int)) : shwN h (lastI (shwL h f)) = -1 ∨ (shwL h f).contains (shwN h (lastI (shwL h f))) = true:=by
 have hp:=shwL_pos h f h0 h1
 have hm:=shwL_mem (fun x a b=>(shw_rng hv x a b).2) f h1 _ (lastI_mem hp)
 have hr:=shw_rng hv _ hm.1 hm.2
 have hc:=chain_last (shwN h) h.length (fun x a b=>(shw_rng hv x a b).2) h.length [] f h1 (restN_le _ _)
 rw [← shwL_chain] at hc
 rcases hc (fun hh=>by rw [hh] at hp;simp at hp) with h2 | h2
 ·left;omega
 ·right;rw [List.contains_iff_mem];exact h2
theorem ctx_last (hv : vH t h = true) (h0 : 0 ≤ f) (h1 : f < (h.length : Int)) : ctxN h (lastI (ctxL h f)) = -1:=by
 have hp:=ctxL_pos h f h0 h1
 have hm:=ctxL_mem (fun x a b=>(fsH_ctx (vH_parts hv).1 x a b).2) f h1 _ (lastI_mem hp)
 have hr:=fsH_ctx (vH_parts hv).1 _ hm.1 hm.2
 have:=all_at (vH_parts hv).2.1 f.toNat (by omega)
 unfold endB at this
 rw [show ((f.toNat : Nat) : Int) = f by omega] at this
 have:=of_decide_eq_true this
 omega
theorem ctx_head (h0 : 0 ≤ f) (h1 : f < (h.length : Int)) : (ctxL h f).getD 0 0 = f:=by
 unfold ctxL
 rw [walkL_chain]
 obtain ⟨n,hn⟩ : ∃ n,h.length = n + 1:=⟨h.length - 1,by omega⟩
 rw [hn,chainL,if_pos ⟨h0,by simp⟩]
 rfl
end
theorem hasF_mk {h : List Fau} {f : Int} (h0 : 0 ≤ f) (h1 : f < (h.length : Int)) : hasF h f = true:=by
 unfold hasF
 rw [Bool.and_eq_true,decide_eq_true_eq,decide_eq_true_eq]
 omega
theorem good_mk {t : List Cls} {h : List Fau} {f : Int} (hv : vH t h = true) (h0 : 0 ≤ f) (h1 : f < (h.length : Int)) : (vH t h && hasF h f) = true:=by
 rw [hv,hasF_mk h0 h1]
 rfl
end Go.Proofs.Ytmiholmfbjalfaa.P
namespace Go.Proofs.Ytmiholmfbjalfaa.Pure
open Go.RowKit Go.Proofs.Ytmiholmfbjalfaa.P
open Go.Proofs.YtmiholmfbjalfaaW.PrintWords (rd rdOf wrap_succ wrap_pred wrap_in toL_beq idxP)
set_option linter.unusedVariables false
theorem chain_loop (x5 : Int) (L : List Int) (hL : L.length ≤ 1000) (t : List Cls) (h : List Fau) (r : List Int) (hr : r.length ≤ 100000) (hI : impl_ContextChain.f t h x5 = some r) (hq : r = x5 :: L.takeWhile (fun z=>!(z == x5))) : ∀ (d j : Nat),j + d = L.length → L.take j = (L.take j).takeWhile (fun z=>!(z == x5)) → Ev (fun k=>laws_FnRaiseWhileChain.l0 k x5 (x5 :: L.take j) L (j : Int) t h) true:=by
 intro d
 induction d with
 | zero =>
  intro j hj ht
  refine Ev.succ ?_
  simp only [laws_FnRaiseWhileChain.l0]
  rw [List.take_of_length_le (by omega)] at ht ⊢
  have e : r = x5 :: L:=by rw [hq];congr 1;exact ht.symm
  refine Ev.neg (by omega) (Ev.bind (Ev.const hI) ?_)
  rw [e]
  exact Ev.bind (laws_equalInts_ev _ (by simp;omega)) (Ev.const rfl)
 | succ d ih =>
  intro j hj ht
  have hlt : j < L.length:=by omega
  have hrd : rd L (j : Int) = L[j]:=by simp [rd,hlt]
  refine Ev.succ ?_
  simp only [laws_FnRaiseWhileChain.l0,hrd]
  have hall : ∀ y ∈ L.take j,(!(y == x5)) = true:=by
   rw [ht]
   exact fun y hy=>List.all_eq_true.1 List.all_takeWhile y hy
  refine Ev.pos (by omega) (Ev.pos (by omega) ?_)
  by_cases e : L[j] = x5
  ·have e2 : r = x5 :: L.take j:=by
    rw [hq]
    congr 1
    have hs : L = L.take j ++ L[j] :: L.drop (j + 1):=by
     rw [← List.drop_eq_getElem_cons hlt,List.take_append_drop]
    conv=>lhs;rw [hs]
    rw [List.takeWhile_append_of_pos hall,List.takeWhile_cons,if_neg (by simp [e]),List.append_nil]
   refine Ev.pos e (Ev.bind (Ev.const hI) ?_)
   rw [e2]
   exact Ev.bind (laws_equalInts_ev _ (by simp;omega)) (Ev.const rfl)
  ·refine Ev.neg e (Ev.pos (by simp;omega) ?_)
   rw [wrap_succ (i:=(j : Int)) (n:=L.length) (by omega) (by omega) (by omega)]
   have e3 : (x5 :: L.take j) ++ [L[j]] = x5 :: L.take (j + 1):=by
    rw [List.take_succ_eq_append_getElem hlt]
    rfl
   rw [e3]
   refine ih (j + 1) (by omega) ?_
   rw [List.take_succ_eq_append_getElem hlt,List.takeWhile_append_of_pos hall,List.takeWhile_cons,if_pos (by simp [e])]
   rfl
theorem FnRaiseWhileChain : laws_FnRaiseWhileChain.Pure:=by
 intro l0 _ _ hw
 refine Ev.out (F:=fun k=>laws_FnRaiseWhileChain.f k l0) ?_
 unfold laws_FnRaiseWhileChain.f
 by_cases hbig : (l0.length : Int) > 1048576
 ·exact Ev.pos hbig (Ev.const rfl)
 refine Ev.neg hbig ?_
 obtain ⟨t,h,f,g,hd,ht,hs,hh⟩:=spec_DrawRaiseWhile_ev l0 hw
 have hI:=impl_RaiseWhile_ev t h f g hs (by omega)
 have hS:=spec_RaiseWhile_ev t h f g hs (by omega) (by omega)
 by_cases hc : ((vH t h && hasF h f) && hasF h g) = true
 ·have hr : raiP t h f g = (whlP h f g,true):=by unfold raiP;rw [if_pos hc]
  rw [hr] at hI hS
  have hl:=whlP_len h f g
  rw [Bool.and_eq_true] at hc
  obtain ⟨_,h0,h1⟩:=good_parts hc.1
  obtain ⟨g0,g1⟩:=hasF_in hc.2
  have hv:=(Bool.and_eq_true _ _ ▸ hc.1).1
  have hv2:=vH_whl hv h0 h1 g0 g1
  have hC:=impl_ContextChain_ev t h g hs (by omega)
  have hC2:=impl_ContextChain_ev t (whlP h f g) f hs (by omega)
  refine Ev.bind hd (Ev.bind (Ev.const hI) (Ev.bind hS (Ev.bind (laws_equalHeap_ev _ (show (whlP h f g).length ≤ 9223372036854775806 by omega)) (Ev.pos rfl (Ev.neg (by simp) (Ev.succ ?_))))))
  simp only [laws_FnRaiseWhileChain.j0]
  refine Ev.neg (by simp) ?_
  by_cases e : f = g
  ·exact Ev.pos e (Ev.const rfl)
  ·have c1 : ctxP t h g = ctxL h g:=by unfold ctxP;rw [if_pos (by rw [hv,hc.2];rfl)]
   have c2 : ctxP t (whlP h f g) f = ctxL (whlP h f g) f:=by
    unfold ctxP
    rw [if_pos (good_mk hv2 h0 (by rw [hl];exact h1))]
   rw [c1] at hC
   rw [c2] at hC2
   have n1:=ctxL_len h g
   have n2:=ctxL_len (whlP h f g) f
   exact Ev.neg e (Ev.bind (Ev.const hC) (chain_loop f (ctxL h g) (by omega) t (whlP h f g) _ (by omega) hC2 (whl_chain hv h0 h1 e g0 g1) (ctxL h g).length 0 (by omega) rfl))
 ·have hr : raiP t h f g = ([],false):=by unfold raiP;rw [if_neg hc]
  rw [hr] at hI hS
  refine Ev.bind hd (Ev.bind (Ev.const hI) (Ev.bind hS (Ev.bind (laws_equalHeap_ev _ (by simp)) (Ev.pos rfl (Ev.neg (by simp) (Ev.succ ?_))))))
  simp only [laws_FnRaiseWhileChain.j0]
  exact Ev.pos (by rfl) (Ev.bind (laws_equalHeap_ev _ (by simp)) (Ev.pos rfl (Ev.const rfl)))
end Go.Proofs.Ytmiholmfbjalfaa.Pure
