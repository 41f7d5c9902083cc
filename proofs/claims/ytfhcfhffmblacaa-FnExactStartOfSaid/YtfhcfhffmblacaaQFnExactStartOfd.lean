/- Texts under the proof of FnExactStartOf: helper words, the functions' contracts and the plain laws. No condition. -/
import Derived.Test.YtfhcfhffmblacaaQFnExactStartOfa
import Derived.Test.YtfhcfhffmblacaaQFnExactStartOfb
import Derived.Test.YtfhcfhffmblacaaQFnExactStartOfc
namespace Go.Proofs.Ytfhcfhffmblacaa.P
open Go.RowKit Go.Proofs.YtfhcfhffmblacaaW.PrintWords Go.Proofs.YtfhcfhffmblacaaW.PrintLast Go.Proofs.YtfhcfhffmblacaaW.PrintMore
attribute [local go_sem] max2_int min2_int max_two min_two max_three min_three max_four min_four
set_option linter.unusedVariables false
set_option linter.unusedSimpArgs false
def laws_FnExactStartOf.j0 : Nat → Bool → List (S103) → List Int → Int → Int → List (S109) → List (S106) → List Int → Int → Int → List (S79) → Option (Bool)
 | 0,_,_,_,_,_,_,_,_,_,_,_=>none
 | k + 1,x48,x2000,x3000,x3001,x3002,x3003,x25000,x34000,x34001,x34002,x34003=>if x48 = true then (some false) else ((laws_toTree.f k x2000).bind fun t40=>((laws_eqTree.f k x25000 t40).bind fun t43=>(if t43 = true then ((laws_toResult.f k x3000 x3001 x3002 x3003).bind fun bt44=>((laws_eqResult.f k x34000 x34001 x34002 x34003 bt44.1 bt44.2.1 bt44.2.2.1 bt44.2.2.2).bind fun t52=>(if t52 = true then (some true) else (some false)))) else (some false))))
def laws_FnExactStartOf.f (k : Nat) (l0_0 : List (S103)) (l1_0 : List Int) (a1_1 : Int) (a1_2 : Int) (l1_3 : List (S109)) : Option (Bool):=(laws_szTree.f k l0_0 1048576).bind fun t3=>(if t3 < 0 then (some true) else ((laws_szResult.f l1_0 a1_1 a1_2 l1_3 t3).bind fun t4=>(if t4 < 0 then (some true) else ((laws_toTree.f k l0_0).bind fun t5=>((laws_toResult.f k l1_0 a1_1 a1_2 l1_3).bind fun bt8=>((spec_StartOf.f k t5 bt8.1 bt8.2.1 bt8.2.2.1 bt8.2.2.2).bind fun bt16=>((laws_toTree.f k l0_0).bind fun t21=>((laws_toResult.f k l1_0 a1_1 a1_2 l1_3).bind fun bt25=>((impl_StartOf.f t21 bt25.1 bt25.2.1 bt25.2.2.1 bt25.2.2.2).bind fun bt34=>((laws_eqStart.f bt34.1 bt34.2.1 bt34.2.2.1 bt16.1 bt16.2.1 bt16.2.2.1).bind fun t39=>(if t39 = true then (laws_FnExactStartOf.j0 k (bt34.2.2.2 != bt16.2.2.2) l0_0 l1_0 a1_1 a1_2 l1_3 t21 bt25.1 bt25.2.1 bt25.2.2.1 bt25.2.2.2) else (laws_FnExactStartOf.j0 k true l0_0 l1_0 a1_1 a1_2 l1_3 t21 bt25.1 bt25.2.1 bt25.2.2.1 bt25.2.2.2))))))))))))
theorem laws_FnExactStartOf.mono_l : ∀ k,(∀ y0 y1 y2 y3 y4 y5 y6 y7 y8 y9 y10,LeO (laws_FnExactStartOf.j0 k y0 y1 y2 y3 y4 y5 y6 y7 y8 y9 y10) (laws_FnExactStartOf.j0 (k + 1) y0 y1 y2 y3 y4 y5 y6 y7 y8 y9 y10))
 | 0=>fun _ _ _ _ _ _ _ _ _ _ _ r h=>by simp [laws_FnExactStartOf.j0] at h
 | k + 1=>by
  have ih0:=laws_FnExactStartOf.mono_l k
  ·intro y0 y1 y2 y3 y4 y5 y6 y7 y8 y9 y10
   unfold laws_FnExactStartOf.j0
   repeat' first
   | (with_reducible exact ih0 _ _ _ _ _ _ _ _ _ _ _)
   | (with_reducible exact laws_eqResult.mono _ _ _ _ _ _ _ _ _)
   | (with_reducible exact laws_eqTree.mono _ _ _)
   | (with_reducible exact laws_szTree.mono _ _ _)
   | (with_reducible exact laws_toResult.mono _ _ _ _ _)
   | (with_reducible exact laws_toTree.mono _ _)
   | (with_reducible exact spec_StartOf.mono _ _ _ _ _ _)
   | (with_reducible exact LeO.refl _)
   | (with_reducible exact LeO.none _)
   | (with_reducible refine LeO.ite ?_ ?_)
   | (with_reducible refine LeO.bind ?_ (fun _=>?_))
   | exact ih0 _ _ _ _ _ _ _ _ _ _ _
   | exact laws_eqResult.mono _ _ _ _ _ _ _ _ _
   | exact laws_eqTree.mono _ _ _
   | exact laws_szTree.mono _ _ _
   | exact laws_toResult.mono _ _ _ _ _
   | exact laws_toTree.mono _ _
   | exact spec_StartOf.mono _ _ _ _ _ _
   | exact LeO.none _
   | refine LeO.ite ?_ ?_
   | refine LeO.bind ?_ (fun _=>?_)
theorem laws_FnExactStartOf.mono : ∀ a0 a1 a2 a3 a4 k,LeO (laws_FnExactStartOf.f k a0 a1 a2 a3 a4) (laws_FnExactStartOf.f (k + 1) a0 a1 a2 a3 a4):=by
 intro a0 a1 a2 a3 a4 k
 have ih0:=laws_FnExactStartOf.mono_l k
 unfold laws_FnExactStartOf.f
 repeat' first
   | (with_reducible exact ih0 _ _ _ _ _ _ _ _ _ _ _)
   | (with_reducible exact laws_eqResult.mono _ _ _ _ _ _ _ _ _)
   | (with_reducible exact laws_eqTree.mono _ _ _)
   | (with_reducible exact laws_szTree.mono _ _ _)
   | (with_reducible exact laws_toResult.mono _ _ _ _ _)
   | (with_reducible exact laws_toTree.mono _ _)
   | (with_reducible exact spec_StartOf.mono _ _ _ _ _ _)
   | (with_reducible exact LeO.refl _)
   | (with_reducible exact LeO.none _)
   | (with_reducible refine LeO.ite ?_ ?_)
   | (with_reducible refine LeO.bind ?_ (fun _=>?_))
   | exact ih0 _ _ _ _ _ _ _ _ _ _ _
   | exact laws_eqResult.mono _ _ _ _ _ _ _ _ _
   | exact laws_eqTree.mono _ _ _
   | exact laws_szTree.mono _ _ _
   | exact laws_toResult.mono _ _ _ _ _
   | exact laws_toTree.mono _ _
   | exact spec_StartOf.mono _ _ _ _ _ _
   | exact LeO.none _
   | refine LeO.ite ?_ ?_
   | refine LeO.bind ?_ (fun _=>?_)
def laws_FnExactStartOf.T8 : Bool × List (List Nat × List Nat):=(true,[([],[]),([0],[0]),([],[]),([2,1],[2]),([1,3,3],[1,3]),([4],[4]),([5],[5]),([5],[5]),([],[]),([8,6,4,0,1,2,3,4,5,6,8],[6,8]),([7,9,0,1,2,3,4,5,6,7,8,9],[7])])
def laws_FnExactStartOf.B8 : List Nat:=[0,1,0,7,15,31,63,63,0,383,1023]
theorem laws_FnExactStartOf.tab8 : rtab .any (opsOf Try.f13 8) = laws_FnExactStartOf.T8:=by kernel_rfl
theorem laws_FnExactStartOf.bits8 : waitsOk laws_FnExactStartOf.T8.2 laws_FnExactStartOf.B8 = true:=by kernel_rfl
set_option maxHeartbeats 8000000 in
set_option maxRecDepth 100000 in
theorem laws_FnExactStartOf.calls (k : Nat) (A0_0 : Option Addr) (c0_0 : Nat) (l0_0 : List (S103)) (A1_0 : Option Addr) (c1_0 : Nat) (l1_0 : List Int) (a1_1 : Int) (a1_2 : Int) (A1_3 : Option Addr) (c1_3 : Nat) (l1_3 : List (S109)) (r : Bool) (w : World) (hr0_0 : Kd.C k103 w A0_0 l0_0.length l0_0) (hc0_0 : l0_0.length ≤ c0_0) (hr1_0 : Kd.C (Kd.int .i64) w A1_0 l1_0.length l1_0) (hc1_0 : l1_0.length ≤ c1_0) (hr1_3 : Kd.C k109 w A1_3 l1_3.length l1_3) (hc1_3 : l1_3.length ≤ c1_3) (h : laws_FnExactStartOf.f k l0_0 l1_0 a1_1 a1_2 l1_3 = some r) :
  Calls Try.prog 13 #[.agg #[.slice A0_0 l0_0.length c0_0],.agg #[.slice A1_0 l1_0.length c1_0,.int .i64 a1_1,.int .i64 a1_2,.slice A1_3 l1_3.length c1_3]] w fun e w'=>e = .returned (.bool r) ∧ Below w.heap.size w w':=by
 have hu24:=Try.underlying24
 have hu60:=Try.underlying60
 have hu63:=Try.underlying63
 have hu33:=Try.underlying33
 have hu67:=Try.underlying67
 have HR0_0:=a0_ hr0_0
 have HC0_0:=a0_ hc0_0
 clear hr0_0 hc0_0
 have HR1_0:=a0_ hr1_0
 have HC1_0:=a0_ hc1_0
 clear hr1_0 hc1_0
 have HR1_3:=a0_ hr1_3
 have HC1_3:=a0_ hc1_3
 clear hr1_3 hc1_3
 have HB:=a0_ (Below.refl w.heap.size w)
 have H : ((laws_szTree.f k l0_0 1048576).bind fun t3=>(if t3 < 0 then (some true) else ((laws_szResult.f l1_0 a1_1 a1_2 l1_3 t3).bind fun t4=>(if t4 < 0 then (some true) else ((laws_toTree.f k l0_0).bind fun t5=>((laws_toResult.f k l1_0 a1_1 a1_2 l1_3).bind fun bt8=>((spec_StartOf.f k t5 bt8.1 bt8.2.1 bt8.2.2.1 bt8.2.2.2).bind fun bt16=>((laws_toTree.f k l0_0).bind fun t21=>((laws_toResult.f k l1_0 a1_1 a1_2 l1_3).bind fun bt25=>((impl_StartOf.f t21 bt25.1 bt25.2.1 bt25.2.2.1 bt25.2.2.2).bind fun bt34=>((laws_eqStart.f bt34.1 bt34.2.1 bt34.2.2.1 bt16.1 bt16.2.1 bt16.2.2.1).bind fun t39=>(if t39 = true then (laws_FnExactStartOf.j0 k (bt34.2.2.2 != bt16.2.2.2) l0_0 l1_0 a1_1 a1_2 l1_3 t21 bt25.1 bt25.2.1 bt25.2.2.1 bt25.2.2.2) else (laws_FnExactStartOf.j0 k true l0_0 l1_0 a1_1 a1_2 l1_3 t21 bt25.1 bt25.2.1 bt25.2.2.1 bt25.2.2.2))))))))))))) = some r:=h
 clear h
 replace H:=Option.bind_eq_some_iff.mp H
 obtain ⟨t3,A30,H⟩:=H
 replace H : (if t3 < 0 then (some true) else ((laws_szResult.f l1_0 a1_1 a1_2 l1_3 t3).bind fun t4=>(if t4 < 0 then (some true) else ((laws_toTree.f k l0_0).bind fun t5=>((laws_toResult.f k l1_0 a1_1 a1_2 l1_3).bind fun bt8=>((spec_StartOf.f k t5 bt8.1 bt8.2.1 bt8.2.2.1 bt8.2.2.2).bind fun bt16=>((laws_toTree.f k l0_0).bind fun t21=>((laws_toResult.f k l1_0 a1_1 a1_2 l1_3).bind fun bt25=>((impl_StartOf.f t21 bt25.1 bt25.2.1 bt25.2.2.1 bt25.2.2.2).bind fun bt34=>((laws_eqStart.f bt34.1 bt34.2.1 bt34.2.2.1 bt16.1 bt16.2.1 bt16.2.2.1).bind fun t39=>(if t39 = true then (laws_FnExactStartOf.j0 k (bt34.2.2.2 != bt16.2.2.2) l0_0 l1_0 a1_1 a1_2 l1_3 t21 bt25.1 bt25.2.1 bt25.2.2.1 bt25.2.2.2) else (laws_FnExactStartOf.j0 k true l0_0 l1_0 a1_1 a1_2 l1_3 t21 bt25.1 bt25.2.1 bt25.2.2.1 bt25.2.2.2)))))))))))) = some r:=H
 have A3:=a0_ A30
 clear A30
 by_cases c4 : t3 < 0
 ·rw [if_pos c4] at H
  have c4b0 : decide (t3 < 0) = true:=decide_eq_true c4
  clear c4
  obtain rfl:=Option.some.inj H
  go_enter Try.func13,Try.ntmps13
  go_wp2_with (first | ((with_reducible refine gate_dst (N:=2) rfl ?_);refine box_event ?hg (N:=2) ?hd (cs:=#[.slice A0_0 l0_0.length c0_0]) (t:=24) ?hr ?_;(case hd=>rfl);(case hg=>rfl);(case hr=>first | (go_simp;done) | (go_simp;rfl));intro gb1 hg w5 hbox hb;have BK1:=a0_ (hbox);have GW1:=a0_ ((by rw [hg];exact (below_size hb_) : w.heap.size ≤ gb1));have GE1:=a0_ ((by rw [hg];exact (below_size hb_) : w.heap.size ≤ gb1));replace HB:=a0_ (below_step hb_ hb);clear hb hbox hg) | ((with_reducible refine gate_dst (N:=3) rfl ?_);refine box_event ?hg (N:=3) ?hd (cs:=#[.slice A1_0 l1_0.length c1_0,.int .i64 a1_1,.int .i64 a1_2,.slice A1_3 l1_3.length c1_3]) (t:=60) ?hr ?_;(case hd=>rfl);(case hg=>rfl);(case hr=>first | (go_simp;done) | (go_simp;rfl));intro gb2 hg w6 hbox hb;have n0_:=kb_ BK1 hb;have n1_:=a0_ (below_step hb_ hb);have n2_:=a0_ (hbox);have n3_:=a0_ ((by rw [hg];exact (below_size hb_) : w.heap.size ≤ gb2));have n4_:=a0_ ((by rw [hg];exact (below_size hb_) : w.heap.size ≤ gb2));have n5_:=a0_ ((by rw [hg];exact Nat.ne_of_lt (blk_lt (bb_ BK1.out)) : gb1 ≠ gb2));have n6_:=a0_ ((by rw [hg];exact Nat.ne_of_gt (blk_lt (bb_ BK1.out)) : gb2 ≠ gb1));clear BK1 HB;have BK1:=n0_;have HB:=n1_;have BK2:=n2_;have GW2:=n3_;have GE2:=n4_;have NB1_2:=n5_;have NB2_1:=n6_;clear n0_ n1_ n2_ n3_ n4_ n5_ n6_;clear hb hbox hg;have hnb7:=NB1_2.out;have hnc7:=NB2_1.out;have hcz8_0 : w6.cell? ⟨gb1,0,none⟩ = some (.slice A0_0 l0_0.length c0_0):=(blk_cell BK1.out 0).trans rfl;have hfz8_0:=blk_frozen BK1.out 0) | ((with_reducible refine gate_callee (f:=14) rfl ?_);refine goesL_ (some 14) rfl rfl Try.func14 (by kernel_rfl) rfl #[.agg #[.slice A0_0 l0_0.length c0_0],.int .i64 1048576] rfl lm_ ?_;(with_reducible refine (laws_szTree.calls k _ _ l0_0 1048576 t3 _ ?side1 ?side2 A3.out).mono ?_);(case side1=>exact cc_ (Kd.C_below HR0_0.out HB.out));(case side2=>exact HC0_0.out);rintro e w9 ⟨rfl,hb⟩;refine ⟨_,rfl,?_⟩;replace BK1:=kb_ BK1 hb;replace BK2:=kb_ BK2 hb;replace HB:=a0_ (below_step hb_ hb);(try clear hb);(try clear hb2);(try clear hk);(try clear hi)))
  go_ret
  exact ⟨by first | rfl | (simp [errW_none,errW_some] <;> rfl) | (simp [*,errW_none,errW_some] <;> rfl),hb_⟩
 ·rw [if_neg c4] at H
  have c4b0 : decide (t3 < 0) = false:=decide_eq_false c4
  clear c4
  replace H:=Option.bind_eq_some_iff.mp H
  obtain ⟨t4,A100,H⟩:=H
  replace H : (if t4 < 0 then (some true) else ((laws_toTree.f k l0_0).bind fun t5=>((laws_toResult.f k l1_0 a1_1 a1_2 l1_3).bind fun bt8=>((spec_StartOf.f k t5 bt8.1 bt8.2.1 bt8.2.2.1 bt8.2.2.2).bind fun bt16=>((laws_toTree.f k l0_0).bind fun t21=>((laws_toResult.f k l1_0 a1_1 a1_2 l1_3).bind fun bt25=>((impl_StartOf.f t21 bt25.1 bt25.2.1 bt25.2.2.1 bt25.2.2.2).bind fun bt34=>((laws_eqStart.f bt34.1 bt34.2.1 bt34.2.2.1 bt16.1 bt16.2.1 bt16.2.2.1).bind fun t39=>(if t39 = true then (laws_FnExactStartOf.j0 k (bt34.2.2.2 != bt16.2.2.2) l0_0 l1_0 a1_1 a1_2 l1_3 t21 bt25.1 bt25.2.1 bt25.2.2.1 bt25.2.2.2) else (laws_FnExactStartOf.j0 k true l0_0 l1_0 a1_1 a1_2 l1_3 t21 bt25.1 bt25.2.1 bt25.2.2.1 bt25.2.2.2)))))))))) = some r:=H
  have A10:=a0_ A100
  clear A100
  by_cases c11 : t4 < 0
  ·rw [if_pos c11] at H
   have c11b0 : decide (t4 < 0) = true:=decide_eq_true c11
   clear c11
   obtain rfl:=Option.some.inj H
   go_enter Try.func13,Try.ntmps13
   go_wp2_with (first | ((with_reducible refine gate_dst (N:=2) rfl ?_);refine box_event ?hg (N:=2) ?hd (cs:=#[.slice A0_0 l0_0.length c0_0]) (t:=24) ?hr ?_;(case hd=>rfl);(case hg=>rfl);(case hr=>first | (go_simp;done) | (go_simp;rfl));intro gb1 hg w12 hbox hb;have BK1:=a0_ (hbox);have GW1:=a0_ ((by rw [hg];exact (below_size hb_) : w.heap.size ≤ gb1));have GE1:=a0_ ((by rw [hg];exact (below_size hb_) : w.heap.size ≤ gb1));replace HB:=a0_ (below_step hb_ hb);clear hb hbox hg) | ((with_reducible refine gate_dst (N:=3) rfl ?_);refine box_event ?hg (N:=3) ?hd (cs:=#[.slice A1_0 l1_0.length c1_0,.int .i64 a1_1,.int .i64 a1_2,.slice A1_3 l1_3.length c1_3]) (t:=60) ?hr ?_;(case hd=>rfl);(case hg=>rfl);(case hr=>first | (go_simp;done) | (go_simp;rfl));intro gb2 hg w13 hbox hb;have n0_:=kb_ BK1 hb;have n1_:=a0_ (below_step hb_ hb);have n2_:=a0_ (hbox);have n3_:=a0_ ((by rw [hg];exact (below_size hb_) : w.heap.size ≤ gb2));have n4_:=a0_ ((by rw [hg];exact (below_size hb_) : w.heap.size ≤ gb2));have n5_:=a0_ ((by rw [hg];exact Nat.ne_of_lt (blk_lt (bb_ BK1.out)) : gb1 ≠ gb2));have n6_:=a0_ ((by rw [hg];exact Nat.ne_of_gt (blk_lt (bb_ BK1.out)) : gb2 ≠ gb1));clear BK1 HB;have BK1:=n0_;have HB:=n1_;have BK2:=n2_;have GW2:=n3_;have GE2:=n4_;have NB1_2:=n5_;have NB2_1:=n6_;clear n0_ n1_ n2_ n3_ n4_ n5_ n6_;clear hb hbox hg;have hnb14:=NB1_2.out;have hnc14:=NB2_1.out;have hcz15_0 : w13.cell? ⟨gb1,0,none⟩ = some (.slice A0_0 l0_0.length c0_0):=(blk_cell BK1.out 0).trans rfl;have hfz15_0:=blk_frozen BK1.out 0) | ((with_reducible refine gate_callee (f:=14) rfl ?_);refine goesL_ (some 14) rfl rfl Try.func14 (by kernel_rfl) rfl #[.agg #[.slice A0_0 l0_0.length c0_0],.int .i64 1048576] rfl lm_ ?_;(with_reducible refine (laws_szTree.calls k _ _ l0_0 1048576 t3 _ ?side1 ?side2 A3.out).mono ?_);(case side1=>exact cc_ (Kd.C_below HR0_0.out HB.out));(case side2=>exact HC0_0.out);rintro e w16 ⟨rfl,hb⟩;refine ⟨_,rfl,?_⟩;replace BK1:=kb_ BK1 hb;replace BK2:=kb_ BK2 hb;replace HB:=a0_ (below_step hb_ hb);(try clear hb);have hcz17_0 : w16.cell? ⟨gb2,0,none⟩ = some (.slice A1_0 l1_0.length c1_0):=(blk_cell BK2.out 0).trans rfl;have hcz17_1 : w16.cell? ⟨gb2,1,none⟩ = some (.int .i64 a1_1):=(blk_cell BK2.out 1).trans rfl;have hcz17_2 : w16.cell? ⟨gb2,2,none⟩ = some (.int .i64 a1_2):=(blk_cell BK2.out 2).trans rfl;have hcz17_3 : w16.cell? ⟨gb2,3,none⟩ = some (.slice A1_3 l1_3.length c1_3):=(blk_cell BK2.out 3).trans rfl;have hfz17_0:=blk_frozen BK2.out 0;have hfz17_1:=blk_frozen BK2.out 1;have hfz17_2:=blk_frozen BK2.out 2;have hfz17_3:=blk_frozen BK2.out 3) | ((with_reducible refine gate_callee (f:=46) rfl ?_);refine goesL_ (some 19) rfl rfl Try.func46 (by kernel_rfl) rfl #[.agg #[.slice A1_0 l1_0.length c1_0,.int .i64 a1_1,.int .i64 a1_2,.slice A1_3 l1_3.length c1_3],.int .i64 t3] rfl lm_ ?_;(with_reducible refine (laws_szResult.calls _ _ l1_0 a1_1 a1_2 _ _ l1_3 t3 t4 _ ?side1 ?side2 ?side3 ?side4 A10.out).mono ?_);(case side1=>exact cc_ (Kd.C_below HR1_0.out HB.out));(case side2=>exact HC1_0.out);(case side3=>exact cc_ (Kd.C_below HR1_3.out HB.out));(case side4=>exact HC1_3.out);rintro e w18 ⟨rfl,hb⟩;refine ⟨_,rfl,?_⟩;replace BK1:=kb_ BK1 hb;replace BK2:=kb_ BK2 hb;replace HB:=a0_ (below_step hb_ hb);(try clear hb);(try clear hb2);(try clear hk);(try clear hi)))
   go_ret
   exact ⟨by first | rfl | (simp [errW_none,errW_some] <;> rfl) | (simp [*,errW_none,errW_some] <;> rfl),hb_⟩
  ·rw [if_neg c11] at H
   have c11b0 : decide (t4 < 0) = false:=decide_eq_false c11
   clear c11
   replace H:=Option.bind_eq_some_iff.mp H
   obtain ⟨t5,A190,H⟩:=H
   replace H : ((laws_toResult.f k l1_0 a1_1 a1_2 l1_3).bind fun bt8=>((spec_StartOf.f k t5 bt8.1 bt8.2.1 bt8.2.2.1 bt8.2.2.2).bind fun bt16=>((laws_toTree.f k l0_0).bind fun t21=>((laws_toResult.f k l1_0 a1_1 a1_2 l1_3).bind fun bt25=>((impl_StartOf.f t21 bt25.1 bt25.2.1 bt25.2.2.1 bt25.2.2.2).bind fun bt34=>((laws_eqStart.f bt34.1 bt34.2.1 bt34.2.2.1 bt16.1 bt16.2.1 bt16.2.2.1).bind fun t39=>(if t39 = true then (laws_FnExactStartOf.j0 k (bt34.2.2.2 != bt16.2.2.2) l0_0 l1_0 a1_1 a1_2 l1_3 t21 bt25.1 bt25.2.1 bt25.2.2.1 bt25.2.2.2) else (laws_FnExactStartOf.j0 k true l0_0 l1_0 a1_1 a1_2 l1_3 t21 bt25.1 bt25.2.1 bt25.2.2.1 bt25.2.2.2)))))))) = some r:=H
   have A19:=a0_ A190
   clear A190
   replace H:=Option.bind_eq_some_iff.mp H
   obtain ⟨⟨t8,t11,t12,t13⟩,A200,H⟩:=H
   replace H : ((spec_StartOf.f k t5 t8 t11 t12 t13).bind fun bt16=>((laws_toTree.f k l0_0).bind fun t21=>((laws_toResult.f k l1_0 a1_1 a1_2 l1_3).bind fun bt25=>((impl_StartOf.f t21 bt25.1 bt25.2.1 bt25.2.2.1 bt25.2.2.2).bind fun bt34=>((laws_eqStart.f bt34.1 bt34.2.1 bt34.2.2.1 bt16.1 bt16.2.1 bt16.2.2.1).bind fun t39=>(if t39 = true then (laws_FnExactStartOf.j0 k (bt34.2.2.2 != bt16.2.2.2) l0_0 l1_0 a1_1 a1_2 l1_3 t21 bt25.1 bt25.2.1 bt25.2.2.1 bt25.2.2.2) else (laws_FnExactStartOf.j0 k true l0_0 l1_0 a1_1 a1_2 l1_3 t21 bt25.1 bt25.2.1 bt25.2.2.1 bt25.2.2.2))))))) = some r:=H
   have A20:=a0_ A200
   clear A200
   replace H:=Option.bind_eq_some_iff.mp H
   obtain ⟨⟨t16,t17,t18,t19⟩,A210,H⟩:=H
   replace H : ((laws_toTree.f k l0_0).bind fun t21=>((laws_toResult.f k l1_0 a1_1 a1_2 l1_3).bind fun bt25=>((impl_StartOf.f t21 bt25.1 bt25.2.1 bt25.2.2.1 bt25.2.2.2).bind fun bt34=>((laws_eqStart.f bt34.1 bt34.2.1 bt34.2.2.1 t16 t17 t18).bind fun t39=>(if t39 = true then (laws_FnExactStartOf.j0 k (bt34.2.2.2 != t19) l0_0 l1_0 a1_1 a1_2 l1_3 t21 bt25.1 bt25.2.1 bt25.2.2.1 bt25.2.2.2) else (laws_FnExactStartOf.j0 k true l0_0 l1_0 a1_1 a1_2 l1_3 t21 bt25.1 bt25.2.1 bt25.2.2.1 bt25.2.2.2)))))) = some r:=H
   have A21:=a0_ A210
   clear A210
   replace H:=Option.bind_eq_some_iff.mp H
   obtain ⟨t21,A220,H⟩:=H
   replace H : ((laws_toResult.f k l1_0 a1_1 a1_2 l1_3).bind fun bt25=>((impl_StartOf.f t21 bt25.1 bt25.2.1 bt25.2.2.1 bt25.2.2.2).bind fun bt34=>((laws_eqStart.f bt34.1 bt34.2.1 bt34.2.2.1 t16 t17 t18).bind fun t39=>(if t39 = true then (laws_FnExactStartOf.j0 k (bt34.2.2.2 != t19) l0_0 l1_0 a1_1 a1_2 l1_3 t21 bt25.1 bt25.2.1 bt25.2.2.1 bt25.2.2.2) else (laws_FnExactStartOf.j0 k true l0_0 l1_0 a1_1 a1_2 l1_3 t21 bt25.1 bt25.2.1 bt25.2.2.1 bt25.2.2.2))))) = some r:=H
   have A22:=a0_ A220
   clear A220
   replace H:=Option.bind_eq_some_iff.mp H
   obtain ⟨⟨t25,t28,t29,t30⟩,A230,H⟩:=H
   replace H : ((impl_StartOf.f t21 t25 t28 t29 t30).bind fun bt34=>((laws_eqStart.f bt34.1 bt34.2.1 bt34.2.2.1 t16 t17 t18).bind fun t39=>(if t39 = true then (laws_FnExactStartOf.j0 k (bt34.2.2.2 != t19) l0_0 l1_0 a1_1 a1_2 l1_3 t21 t25 t28 t29 t30) else (laws_FnExactStartOf.j0 k true l0_0 l1_0 a1_1 a1_2 l1_3 t21 t25 t28 t29 t30)))) = some r:=H
   have A23:=a0_ A230
   clear A230
   replace H:=Option.bind_eq_some_iff.mp H
   obtain ⟨⟨t34,t35,t36,t37⟩,A240,H⟩:=H
   replace H : ((laws_eqStart.f t34 t35 t36 t16 t17 t18).bind fun t39=>(if t39 = true then (laws_FnExactStartOf.j0 k (t37 != t19) l0_0 l1_0 a1_1 a1_2 l1_3 t21 t25 t28 t29 t30) else (laws_FnExactStartOf.j0 k true l0_0 l1_0 a1_1 a1_2 l1_3 t21 t25 t28 t29 t30))) = some r:=H
   have A24:=a0_ A240
   clear A240
   have HC25:=a0_ H
   clear H
   go_enter Try.func13,Try.ntmps13
   try go_wp2_with (first | ((with_reducible refine gate_dst (N:=2) rfl ?_);refine box_event ?hg (N:=2) ?hd (cs:=#[.slice A0_0 l0_0.length c0_0]) (t:=24) ?hr ?_;(case hd=>rfl);(case hg=>rfl);(case hr=>first | (go_simp;done) | (go_simp;rfl));intro gb1 hg w26 hbox hb;have BK1:=a0_ (hbox);have GW1:=a0_ ((by rw [hg];exact (below_size hb_) : w.heap.size ≤ gb1));have GE1:=a0_ ((by rw [hg];exact (below_size hb_) : w.heap.size ≤ gb1));replace HB:=a0_ (below_step hb_ hb);clear hb hbox hg) | ((with_reducible refine gate_dst (N:=3) rfl ?_);refine box_event ?hg (N:=3) ?hd (cs:=#[.slice A1_0 l1_0.length c1_0,.int .i64 a1_1,.int .i64 a1_2,.slice A1_3 l1_3.length c1_3]) (t:=60) ?hr ?_;(case hd=>rfl);(case hg=>rfl);(case hr=>first | (go_simp;done) | (go_simp;rfl));intro gb2 hg w27 hbox hb;have n0_:=kb_ BK1 hb;have n1_:=a0_ (below_step hb_ hb);have n2_:=a0_ (hbox);have n3_:=a0_ ((by rw [hg];exact (below_size hb_) : w.heap.size ≤ gb2));have n4_:=a0_ ((by rw [hg];exact (below_size hb_) : w.heap.size ≤ gb2));have n5_:=a0_ ((by rw [hg];exact Nat.ne_of_lt (blk_lt (bb_ BK1.out)) : gb1 ≠ gb2));have n6_:=a0_ ((by rw [hg];exact Nat.ne_of_gt (blk_lt (bb_ BK1.out)) : gb2 ≠ gb1));clear BK1 HB;have BK1:=n0_;have HB:=n1_;have BK2:=n2_;have GW2:=n3_;have GE2:=n4_;have NB1_2:=n5_;have NB2_1:=n6_;clear n0_ n1_ n2_ n3_ n4_ n5_ n6_;clear hb hbox hg;have hnb28:=NB1_2.out;have hnc28:=NB2_1.out;have hcz29_0 : w27.cell? ⟨gb1,0,none⟩ = some (.slice A0_0 l0_0.length c0_0):=(blk_cell BK1.out 0).trans rfl;have hfz29_0:=blk_frozen BK1.out 0) | ((with_reducible refine gate_callee (f:=14) rfl ?_);refine goesL_ (some 14) rfl rfl Try.func14 (by kernel_rfl) rfl #[.agg #[.slice A0_0 l0_0.length c0_0],.int .i64 1048576] rfl lm_ ?_;(with_reducible refine (laws_szTree.calls k _ _ l0_0 1048576 t3 _ ?side1 ?side2 A3.out).mono ?_);(case side1=>exact cc_ (Kd.C_below HR0_0.out HB.out));(case side2=>exact HC0_0.out);rintro e w30 ⟨rfl,hb⟩;refine ⟨_,rfl,?_⟩;replace BK1:=kb_ BK1 hb;replace BK2:=kb_ BK2 hb;replace HB:=a0_ (below_step hb_ hb);(try clear hb);have hcz31_0 : w30.cell? ⟨gb2,0,none⟩ = some (.slice A1_0 l1_0.length c1_0):=(blk_cell BK2.out 0).trans rfl;have hcz31_1 : w30.cell? ⟨gb2,1,none⟩ = some (.int .i64 a1_1):=(blk_cell BK2.out 1).trans rfl;have hcz31_2 : w30.cell? ⟨gb2,2,none⟩ = some (.int .i64 a1_2):=(blk_cell BK2.out 2).trans rfl;have hcz31_3 : w30.cell? ⟨gb2,3,none⟩ = some (.slice A1_3 l1_3.length c1_3):=(blk_cell BK2.out 3).trans rfl;have hfz31_0:=blk_frozen BK2.out 0;have hfz31_1:=blk_frozen BK2.out 1;have hfz31_2:=blk_frozen BK2.out 2;have hfz31_3:=blk_frozen BK2.out 3) | ((with_reducible refine gate_callee (f:=46) rfl ?_);refine goesL_ (some 19) rfl rfl Try.func46 (by kernel_rfl) rfl #[.agg #[.slice A1_0 l1_0.length c1_0,.int .i64 a1_1,.int .i64 a1_2,.slice A1_3 l1_3.length c1_3],.int .i64 t3] rfl lm_ ?_;(with_reducible refine (laws_szResult.calls _ _ l1_0 a1_1 a1_2 _ _ l1_3 t3 t4 _ ?side1 ?side2 ?side3 ?side4 A10.out).mono ?_);(case side1=>exact cc_ (Kd.C_below HR1_0.out HB.out));(case side2=>exact HC1_0.out);(case side3=>exact cc_ (Kd.C_below HR1_3.out HB.out));(case side4=>exact HC1_3.out);rintro e w32 ⟨rfl,hb⟩;refine ⟨_,rfl,?_⟩;replace BK1:=kb_ BK1 hb;replace BK2:=kb_ BK2 hb;replace HB:=a0_ (below_step hb_ hb);(try clear hb);(try clear hb2);(try clear hk);(try clear hi)))
   have n0_:=a0_ (blk_drew BK1.out)
   have n1_:=a0_ (blk_drew BK2.out)
   have n2_:=a0_ (below_drew1 HB.out)
   clear BK1
   clear BK2
   clear HB
   have BK1:=n0_
   have BK2:=n1_
   have HB:=n2_
   clear n0_ n1_ n2_
   refine start_ (n:=11) (S:=fun w'=>w'.cell? ⟨gb1,0,none⟩ = some (.slice A0_0 l0_0.length c0_0) ∧ w'.cell? ⟨gb2,0,none⟩ = some (.slice A1_0 l1_0.length c1_0) ∧ w'.cell? ⟨gb2,1,none⟩ = some (.int .i64 a1_1) ∧ w'.cell? ⟨gb2,2,none⟩ = some (.int .i64 a1_2) ∧ w'.cell? ⟨gb2,3,none⟩ = some (.slice A1_3 l1_3.length c1_3)) (ds:=[]) #[false,false,false,false,false,false,false,false,false,false,false] (by kernel_rfl) rfl rfl ⟨(blk_cell BK1.out 0).trans rfl,(blk_cell BK2.out 0).trans rfl,(blk_cell BK2.out 1).trans rfl,(blk_cell BK2.out 2).trans rfl,(blk_cell BK2.out 3).trans rfl⟩ (fun hHeld=>?_);refine with_tabW laws_FnExactStartOf.tab8 laws_FnExactStartOf.bits8 (fun HT_ HW_=>?_)
   generalize w32.drew = w33 at BK1 BK2 HB hHeld ⊢
   refine take_ (i:=0) (N:=some 23) (v:=?_) (a':=?_) #[true,false,false,false,false,false,false,false,false,false,false] rfl rfl (take_ofW HT_.out HW_.out (by kernel_rfl)) (fun _ _ _ h=>h) (Or.inl ⟨by rfl,?_⟩) hHeld ?_ ?_
   rotate_left
   ·rintro w' ⟨s0,s1,s2,s3,s4⟩
    go_simp
    with_reducible rfl
   rotate_left
   ·simp only [Act.put,s1_,s2_,s3_,i64_w,i32_w]
    rfl
   refine take_ (i:=2) (N:=some 25) (v:=?_) (a':=?_) #[true,false,true,false,false,false,false,false,false,false,false] rfl rfl (take_ofW HT_.out HW_.out (by kernel_rfl)) (fun _ _ _ h=>h) (Or.inl ⟨by rfl,?_⟩) hHeld ?_ ?_
   rotate_left
   ·rintro w' ⟨s0,s1,s2,s3,s4⟩
    go_simp
    with_reducible rfl
   rotate_left
   ·simp only [Act.put,s1_,s2_,s3_,i64_w,i32_w]
    rfl
   refine join_ (σ:=Value × Value × Value × Nat) 2 #[true,true,true,true,true,true,true,true,true,false,false] (fun s_=>[(24,.agg #[s_.1]),(26,.agg #[s_.2.1,.int .i64 t11,.int .i64 t12,s_.2.2.1]),(27,.tuple #[.agg #[.bool t16,.int .i64 t17,.int .i64 t18],.bool t19]),(6,.pointer (some ⟨s_.2.2.2,0,none⟩)),(22,.tuple #[.agg #[.bool t16,.int .i64 t17,.int .i64 t18],.bool t19]),(28,.agg #[.bool t16,.int .i64 t17,.int .i64 t18]),(29,.bool t19)]) (fun s_ w'=>(w'.cell? ⟨gb1,0,none⟩ = some (.slice A0_0 l0_0.length c0_0) ∧ w'.cell? ⟨gb2,0,none⟩ = some (.slice A1_0 l1_0.length c1_0) ∧ w'.cell? ⟨gb2,1,none⟩ = some (.int .i64 a1_1) ∧ w'.cell? ⟨gb2,2,none⟩ = some (.int .i64 a1_2) ∧ w'.cell? ⟨gb2,3,none⟩ = some (.slice A1_3 l1_3.length c1_3)) ∧ (Kd.R (Kd.int .i64) 3 w' w.heap.size (fun _=>True) s_.2.1 t8) ∧ (Kd.R k79 79 w' w.heap.size (fun _=>True) s_.2.2.1 t13) ∧ (Kd.R k106 106 w' w.heap.size (fun _=>True) s_.1 t5) ∧ (w'.heap[gb1]? = some (.cells #[.slice A0_0 l0_0.length c0_0] 24 (0,0))) ∧ (w'.heap[gb2]? = some (.cells #[.slice A1_0 l1_0.length c1_0,.int .i64 a1_1,.int .i64 a1_2,.slice A1_3 l1_3.length c1_3] 60 (0,0))) ∧ (w'.heap[s_.2.2.2]? = some (.cells #[.bool false,.int .i64 0,.int .i64 0] 63 (0,0))) ∧ (w.heap.size ≤ s_.2.2.2) ∧ (w.heap.size ≤ s_.2.2.2) ∧ (gb1 ≠ s_.2.2.2) ∧ (s_.2.2.2 ≠ gb1) ∧ (gb2 ≠ s_.2.2.2) ∧ (s_.2.2.2 ≠ gb2) ∧ (Below w.heap.size w w')) ?_ ?_
   rotate_left
   ·intro hCont
    refine two_ (i:=1) (j:=8) (Ni:=some 24) (Nj:=some 6) #[true,true,true,false,false,false,false,false,false,false,false] #[true,false,true,false,false,false,false,false,true,false,false] rfl rfl rfl rfl (two_of HT_.out (by kernel_rfl)) (by decide) (by decide) (fun K hK=>?_) (fun K hK=>?_)
    ·skip
     refine goes_ Try.func17 (by kernel_rfl) rfl #[.agg #[.slice A0_0 l0_0.length c0_0]] (by rfl) rfl rfl lm_ ?_
     with_reducible refine (laws_toTree.calls k _ _ l0_0 t5 _ ?side1 ?side2 A19.out).mono ?_
     (case side1=>exact cc_ (Kd.C_below HR0_0.out HB.out))
     (case side2=>exact HC0_0.out)
     rintro e w34 ⟨v6,rfl,ho0,hb⟩
     refine ⟨_,rfl,?_⟩
     have n0_:=a0_ (Kd.R_lower ho0 (below_size hb_))
     have n1_:=kb_ BK1 hb
     have n2_:=kb_ BK2 hb
     have n3_:=a0_ (below_step hb_ hb)
     clear BK1
     clear BK2
     clear HB
     have HO7:=n0_
     have BK1:=n1_
     have BK2:=n2_
     have HB:=n3_
     clear n0_ n1_ n2_ n3_
     (try clear hb)
     (try clear hb2)
     (try clear hk)
     (try clear hi)
     (try clear ho0)
     refine hK.out _ _ ⟨(blk_cell BK1.out 0).trans rfl,(blk_cell BK2.out 0).trans rfl,(blk_cell BK2.out 1).trans rfl,(blk_cell BK2.out 2).trans rfl,(blk_cell BK2.out 3).trans rfl⟩ (fun hHeld=>?_)
     clear hK K
     refine norm_ (a':=?_) ?_ ?_
     rotate_left
     ·show Act.put _ (some 24) _ = _
      simp only [Act.put,s1_,s2_,s3_,i64_w,i32_w]
      rfl
     refine two_ (i:=3) (j:=8) (Ni:=some 26) (Nj:=some 6) #[true,true,true,true,false,false,false,false,false,false,false] #[true,true,true,false,false,false,false,false,true,false,false] rfl rfl rfl rfl (two_of HT_.out (by kernel_rfl)) (by decide) (by decide) (fun K hK=>?_) (fun K hK=>?_)
     ·skip
      refine goes_ Try.func48 (by kernel_rfl) rfl #[.agg #[.slice A1_0 l1_0.length c1_0,.int .i64 a1_1,.int .i64 a1_2,.slice A1_3 l1_3.length c1_3]] (by rfl) rfl rfl lm_ ?_
      with_reducible refine (laws_toResult.calls k _ _ l1_0 a1_1 a1_2 _ _ l1_3 t8 t11 t12 t13 _ ?side1 ?side2 ?side3 ?side4 A20.out).mono ?_
      (case side1=>exact cc_ (Kd.C_below HR1_0.out HB.out))
      (case side2=>exact HC1_0.out)
      (case side3=>exact cc_ (Kd.C_below HR1_3.out HB.out))
      (case side4=>exact HC1_3.out)
      rintro e w35 ⟨v9,v14,rfl,ho0,ho1,hb⟩
      refine ⟨_,rfl,?_⟩
      have n0_:=rb_ HO7 hb
      have n1_:=a0_ (Kd.R_lower ho0 (below_size hb_))
      have n2_:=a0_ (Kd.R_lower ho1 (below_size hb_))
      have n3_:=kb_ BK1 hb
      have n4_:=kb_ BK2 hb
      have n5_:=a0_ (below_step hb_ hb)
      clear HO7
      clear BK1
      clear BK2
      clear HB
      have HO7:=n0_
      have HO10:=n1_
      have HO15:=n2_
      have BK1:=n3_
      have BK2:=n4_
      have HB:=n5_
      clear n0_ n1_ n2_ n3_ n4_ n5_
      (try clear hb)
      (try clear hb2)
      (try clear hk)
      (try clear hi)
      (try clear ho0)
      (try clear ho1)
      obtain ⟨Ao36,co36,eo36⟩:=Kd.R_slice HO7.out
      (first | subst eo36 | (injection eo36 with f1_ f2_ f3_;have f4_:=f1_.symm;have f5_:=f3_.symm;clear f1_ f2_ f3_;subst f4_;subst f5_))
      obtain ⟨Ao37,co37,eo37⟩:=Kd.R_slice HO10.out
      (first | subst eo37 | (injection eo37 with f1_ f2_ f3_;have f4_:=f1_.symm;have f5_:=f3_.symm;clear f1_ f2_ f3_;subst f4_;subst f5_))
      obtain ⟨Ao38,co38,eo38⟩:=Kd.R_slice HO15.out
      (first | subst eo38 | (injection eo38 with f1_ f2_ f3_;have f4_:=f1_.symm;have f5_:=f3_.symm;clear f1_ f2_ f3_;subst f4_;subst f5_))
      refine hK.out _ _ ⟨(blk_cell BK1.out 0).trans rfl,(blk_cell BK2.out 0).trans rfl,(blk_cell BK2.out 1).trans rfl,(blk_cell BK2.out 2).trans rfl,(blk_cell BK2.out 3).trans rfl⟩ (fun hHeld=>?_)
      clear hK K
      refine norm_ (a':=?_) ?_ ?_
      rotate_left
      ·show Act.put _ (some 26) _ = _
       simp only [Act.put,s1_,s2_,s3_,i64_w,i32_w]
       rfl
      refine two_ (i:=4) (j:=8) (Ni:=some 27) (Nj:=some 6) #[true,true,true,true,true,false,false,false,false,false,false] #[true,true,true,true,false,false,false,false,true,false,false] rfl rfl rfl rfl (two_of HT_.out (by kernel_rfl)) (by decide) (by decide) (fun K hK=>?_) (fun K hK=>?_)
      ·skip
       refine goes_ Try.func47 (by kernel_rfl) rfl #[.agg #[.slice Ao36 t5.length co36],.agg #[.slice Ao37 t8.length co37,.int .i64 t11,.int .i64 t12,.slice Ao38 t13.length co38]] (by rfl) rfl rfl lm_ ?_
       with_reducible refine (spec_StartOf.calls k _ _ t5 _ _ t8 t11 t12 _ _ t13 t16 t17 t18 t19 _ ?side1 ?side2 ?side3 ?side4 ?side5 ?side6 A21.out).mono ?_
       (case side1=>exact cc_ (Kd.R_reads' HO7.out).2.2)
       (case side2=>exact (Kd.R_reads' HO7.out).2.1)
       (case side3=>exact cc_ (Kd.R_reads' HO10.out).2.2)
       (case side4=>exact (Kd.R_reads' HO10.out).2.1)
       (case side5=>exact cc_ (Kd.R_reads' HO15.out).2.2)
       (case side6=>exact (Kd.R_reads' HO15.out).2.1)
       rintro e w39 ⟨rfl,hb⟩
       refine ⟨_,rfl,?_⟩
       have n0_:=rb_ HO7 hb
       have n1_:=rb_ HO10 hb
       have n2_:=rb_ HO15 hb
       have n3_:=kb_ BK1 hb
       have n4_:=kb_ BK2 hb
       have n5_:=a0_ (below_step hb_ hb)
       clear HO7
       clear HO10
       clear HO15
       clear BK1
       clear BK2
       clear HB
       have HO7:=n0_
       have HO10:=n1_
       have HO15:=n2_
       have BK1:=n3_
       have BK2:=n4_
       have HB:=n5_
       clear n0_ n1_ n2_ n3_ n4_ n5_
       (try clear hb)
       (try clear hb2)
       (try clear hk)
       (try clear hi)
       refine hK.out _ _ ⟨(blk_cell BK1.out 0).trans rfl,(blk_cell BK2.out 0).trans rfl,(blk_cell BK2.out 1).trans rfl,(blk_cell BK2.out 2).trans rfl,(blk_cell BK2.out 3).trans rfl⟩ (fun hHeld=>?_)
       clear hK K
       refine norm_ (a':=?_) ?_ ?_
       rotate_left
       ·show Act.put _ (some 27) _ = _
        simp only [Act.put,s1_,s2_,s3_,i64_w,i32_w]
        rfl
       refine pure_ (i:=5) (N:=some 22) (v:=?_) (a':=?_) #[true,true,true,true,true,true,false,false,false,false,false] rfl rfl (any_of HT_.out (by kernel_rfl)) (fun _ _ _ h=>h) (Or.inl ⟨by rfl,?_⟩) ?_ ?_
       rotate_left
       ·intro w'
        go_simp
        with_reducible rfl
       rotate_left
       ·simp only [Act.put,s1_,s2_,s3_,i64_w,i32_w]
        rfl
       refine pure_ (i:=6) (N:=some 28) (v:=?_) (a':=?_) #[true,true,true,true,true,true,true,false,false,false,false] rfl rfl (any_of HT_.out (by kernel_rfl)) (fun _ _ _ h=>h) (Or.inl ⟨by rfl,?_⟩) ?_ ?_
       rotate_left
       ·intro w'
        go_simp
        with_reducible rfl
       rotate_left
       ·simp only [Act.put,s1_,s2_,s3_,i64_w,i32_w]
        rfl
       refine pure_ (i:=7) (N:=some 29) (v:=?_) (a':=?_) #[true,true,true,true,true,true,true,true,false,false,false] rfl rfl (any_of HT_.out (by kernel_rfl)) (fun _ _ _ h=>h) (Or.inl ⟨by rfl,?_⟩) ?_ ?_
       rotate_left
       ·intro w'
        go_simp
        with_reducible rfl
       rotate_left
       ·simp only [Act.put,s1_,s2_,s3_,i64_w,i32_w]
        rfl
       refine one_ (i:=8) (N:=some 6) #[true,true,true,true,true,true,true,true,true,false,false] rfl rfl (one_of HT_.out (by kernel_rfl)) (by decide) (fun K hK=>?_)
       refine box_step ?hg (N:=6) ?hd (cs:=#[.bool false,.int .i64 0,.int .i64 0]) (t:=63) ?hr ?_;(case hd=>rfl);(case hg=>rfl);(case hr=>first | (go_simp;done) | (go_simp;rfl))
       intro gb20 hg w40 hbox hb
       have n0_:=rb_ HO7 hb
       have n1_:=rb_ HO10 hb
       have n2_:=rb_ HO15 hb
       have n3_:=kb_ BK1 hb
       have n4_:=kb_ BK2 hb
       have n5_:=a0_ (below_step hb_ hb)
       have n6_:=a0_ (hbox)
       have n7_:=a0_ ((by rw [hg];exact (below_size hb_) : w.heap.size ≤ gb20))
       have n8_:=a0_ ((by rw [hg];exact (below_size hb_) : w.heap.size ≤ gb20))
       have n9_:=a0_ ((by rw [hg];exact Nat.ne_of_lt (blk_lt (bb_ BK1.out)) : gb1 ≠ gb20))
       have n10_:=a0_ ((by rw [hg];exact Nat.ne_of_gt (blk_lt (bb_ BK1.out)) : gb20 ≠ gb1))
       have n11_:=a0_ ((by rw [hg];exact Nat.ne_of_lt (blk_lt (bb_ BK2.out)) : gb2 ≠ gb20))
       have n12_:=a0_ ((by rw [hg];exact Nat.ne_of_gt (blk_lt (bb_ BK2.out)) : gb20 ≠ gb2))
       clear HO7
       clear HO10
       clear HO15
       clear BK1
       clear BK2
       clear HB
       have HO7:=n0_
       have HO10:=n1_
       have HO15:=n2_
       have BK1:=n3_
       have BK2:=n4_
       have HB:=n5_
       have BK20:=n6_
       have GW20:=n7_
       have GE20:=n8_
       have NB1_20:=n9_
       have NB20_1:=n10_
       have NB2_20:=n11_
       have NB20_2:=n12_
       clear n0_ n1_ n2_ n3_ n4_ n5_ n6_ n7_ n8_ n9_ n10_ n11_ n12_
       clear hb hbox hg
       refine hK.out _ _ ⟨(blk_cell BK1.out 0).trans rfl,(blk_cell BK2.out 0).trans rfl,(blk_cell BK2.out 1).trans rfl,(blk_cell BK2.out 2).trans rfl,(blk_cell BK2.out 3).trans rfl⟩ (fun hHeld=>?_)
       clear hK K
       refine norm_ (a':=?_) ?_ ?_
       rotate_left
       ·show Act.put _ (some 6) _ = _
        simp only [Act.put,s1_,s2_,s3_,i64_w,i32_w]
        rfl
       exact norm_ (by simp only [putAll,Act.put,s1_,s2_,s3_]) (hCont (.slice Ao36 t5.length co36,.slice Ao37 t8.length co37,.slice Ao38 t13.length co38,gb20) _ ⟨hHeld,(rr_ HO10.out),(rr_ HO15.out),(rr_ HO7.out),(bb_ BK1.out),(bb_ BK2.out),(bb_ BK20.out),GW20.out,GE20.out,NB1_20.out,NB20_1.out,NB2_20.out,NB20_2.out,hb_⟩)
      ·skip
       refine box_step ?hg (N:=6) ?hd (cs:=#[.bool false,.int .i64 0,.int .i64 0]) (t:=63) ?hr ?_;(case hd=>rfl);(case hg=>rfl);(case hr=>first | (go_simp;done) | (go_simp;rfl))
       intro gb20 hg w36 hbox hb
       have n0_:=rb_ HO7 hb
       have n1_:=rb_ HO10 hb
       have n2_:=rb_ HO15 hb
       have n3_:=kb_ BK1 hb
       have n4_:=kb_ BK2 hb
       have n5_:=a0_ (below_step hb_ hb)
       have n6_:=a0_ (hbox)
       have n7_:=a0_ ((by rw [hg];exact (below_size hb_) : w.heap.size ≤ gb20))
       have n8_:=a0_ ((by rw [hg];exact (below_size hb_) : w.heap.size ≤ gb20))
       have n9_:=a0_ ((by rw [hg];exact Nat.ne_of_lt (blk_lt (bb_ BK1.out)) : gb1 ≠ gb20))
       have n10_:=a0_ ((by rw [hg];exact Nat.ne_of_gt (blk_lt (bb_ BK1.out)) : gb20 ≠ gb1))
       have n11_:=a0_ ((by rw [hg];exact Nat.ne_of_lt (blk_lt (bb_ BK2.out)) : gb2 ≠ gb20))
       have n12_:=a0_ ((by rw [hg];exact Nat.ne_of_gt (blk_lt (bb_ BK2.out)) : gb20 ≠ gb2))
       clear HO7
       clear HO10
       clear HO15
       clear BK1
       clear BK2
       clear HB
       have HO7:=n0_
       have HO10:=n1_
       have HO15:=n2_
       have BK1:=n3_
       have BK2:=n4_
       have HB:=n5_
       have BK20:=n6_
       have GW20:=n7_
       have GE20:=n8_
       have NB1_20:=n9_
       have NB20_1:=n10_
       have NB2_20:=n11_
       have NB20_2:=n12_
       clear n0_ n1_ n2_ n3_ n4_ n5_ n6_ n7_ n8_ n9_ n10_ n11_ n12_
       clear hb hbox hg
       obtain ⟨Ao37,co37,eo37⟩:=Kd.R_slice HO7.out
       (first | subst eo37 | (injection eo37 with f1_ f2_ f3_;have f4_:=f1_.symm;have f5_:=f3_.symm;clear f1_ f2_ f3_;subst f4_;subst f5_))
       obtain ⟨Ao38,co38,eo38⟩:=Kd.R_slice HO10.out
       (first | subst eo38 | (injection eo38 with f1_ f2_ f3_;have f4_:=f1_.symm;have f5_:=f3_.symm;clear f1_ f2_ f3_;subst f4_;subst f5_))
       obtain ⟨Ao39,co39,eo39⟩:=Kd.R_slice HO15.out
       (first | subst eo39 | (injection eo39 with f1_ f2_ f3_;have f4_:=f1_.symm;have f5_:=f3_.symm;clear f1_ f2_ f3_;subst f4_;subst f5_))
       refine hK.out _ _ ⟨(blk_cell BK1.out 0).trans rfl,(blk_cell BK2.out 0).trans rfl,(blk_cell BK2.out 1).trans rfl,(blk_cell BK2.out 2).trans rfl,(blk_cell BK2.out 3).trans rfl⟩ (fun hHeld=>?_)
       clear hK K
       refine norm_ (a':=?_) ?_ ?_
       rotate_left
       ·show Act.put _ (some 6) _ = _
        simp only [Act.put,s1_,s2_,s3_,i64_w,i32_w]
        rfl
       refine one_ (i:=4) (N:=some 27) #[true,true,true,true,true,false,false,false,true,false,false] rfl rfl (one_of HT_.out (by kernel_rfl)) (by decide) (fun K hK=>?_)
       refine goes_ Try.func47 (by kernel_rfl) rfl #[.agg #[.slice Ao37 t5.length co37],.agg #[.slice Ao38 t8.length co38,.int .i64 t11,.int .i64 t12,.slice Ao39 t13.length co39]] (by rfl) rfl rfl lm_ ?_
       with_reducible refine (spec_StartOf.calls k _ _ t5 _ _ t8 t11 t12 _ _ t13 t16 t17 t18 t19 _ ?side1 ?side2 ?side3 ?side4 ?side5 ?side6 A21.out).mono ?_
       (case side1=>exact cc_ (Kd.R_reads' HO7.out).2.2)
       (case side2=>exact (Kd.R_reads' HO7.out).2.1)
       (case side3=>exact cc_ (Kd.R_reads' HO10.out).2.2)
       (case side4=>exact (Kd.R_reads' HO10.out).2.1)
       (case side5=>exact cc_ (Kd.R_reads' HO15.out).2.2)
       (case side6=>exact (Kd.R_reads' HO15.out).2.1)
       rintro e w40 ⟨rfl,hb⟩
       refine ⟨_,rfl,?_⟩
       have n0_:=rb_ HO7 hb
       have n1_:=rb_ HO10 hb
       have n2_:=rb_ HO15 hb
       have n3_:=kb_ BK1 hb
       have n4_:=kb_ BK2 hb
       have n5_:=kb_ BK20 hb
       have n6_:=a0_ (below_step hb_ hb)
       clear HO7
       clear HO10
       clear HO15
       clear BK1
       clear BK2
       clear BK20
       clear HB
       have HO7:=n0_
       have HO10:=n1_
       have HO15:=n2_
       have BK1:=n3_
       have BK2:=n4_
       have BK20:=n5_
       have HB:=n6_
       clear n0_ n1_ n2_ n3_ n4_ n5_ n6_
       (try clear hb)
       (try clear hb2)
       (try clear hk)
       (try clear hi)
       refine hK.out _ _ ⟨(blk_cell BK1.out 0).trans rfl,(blk_cell BK2.out 0).trans rfl,(blk_cell BK2.out 1).trans rfl,(blk_cell BK2.out 2).trans rfl,(blk_cell BK2.out 3).trans rfl⟩ (fun hHeld=>?_)
       clear hK K
       refine norm_ (a':=?_) ?_ ?_
       rotate_left
       ·show Act.put _ (some 27) _ = _
        simp only [Act.put,s1_,s2_,s3_,i64_w,i32_w]
        rfl
       refine pure_ (i:=5) (N:=some 22) (v:=?_) (a':=?_) #[true,true,true,true,true,true,false,false,true,false,false] rfl rfl (any_of HT_.out (by kernel_rfl)) (fun _ _ _ h=>h) (Or.inl ⟨by rfl,?_⟩) ?_ ?_
       rotate_left
       ·intro w'
        go_simp
        with_reducible rfl
       rotate_left
       ·simp only [Act.put,s1_,s2_,s3_,i64_w,i32_w]
        rfl
       refine pure_ (i:=6) (N:=some 28) (v:=?_) (a':=?_) #[true,true,true,true,true,true,true,false,true,false,false] rfl rfl (any_of HT_.out (by kernel_rfl)) (fun _ _ _ h=>h) (Or.inl ⟨by rfl,?_⟩) ?_ ?_
       rotate_left
       ·intro w'
        go_simp
        with_reducible rfl
       rotate_left
       ·simp only [Act.put,s1_,s2_,s3_,i64_w,i32_w]
        rfl
       refine pure_ (i:=7) (N:=some 29) (v:=?_) (a':=?_) #[true,true,true,true,true,true,true,true,true,false,false] rfl rfl (any_of HT_.out (by kernel_rfl)) (fun _ _ _ h=>h) (Or.inl ⟨by rfl,?_⟩) ?_ ?_
       rotate_left
       ·intro w'
        go_simp
        with_reducible rfl
       rotate_left
       ·simp only [Act.put,s1_,s2_,s3_,i64_w,i32_w]
        rfl
       exact norm_ (by simp only [putAll,Act.put,s1_,s2_,s3_]) (hCont (.slice Ao37 t5.length co37,.slice Ao38 t8.length co38,.slice Ao39 t13.length co39,gb20) _ ⟨hHeld,(rr_ HO10.out),(rr_ HO15.out),(rr_ HO7.out),(bb_ BK1.out),(bb_ BK2.out),(bb_ BK20.out),GW20.out,GE20.out,NB1_20.out,NB20_1.out,NB2_20.out,NB20_2.out,hb_⟩)
     ·skip
      refine box_step ?hg (N:=6) ?hd (cs:=#[.bool false,.int .i64 0,.int .i64 0]) (t:=63) ?hr ?_;(case hd=>rfl);(case hg=>rfl);(case hr=>first | (go_simp;done) | (go_simp;rfl))
      intro gb20 hg w35 hbox hb
      have n0_:=rb_ HO7 hb
      have n1_:=kb_ BK1 hb
      have n2_:=kb_ BK2 hb
      have n3_:=a0_ (below_step hb_ hb)
      have n4_:=a0_ (hbox)
      have n5_:=a0_ ((by rw [hg];exact (below_size hb_) : w.heap.size ≤ gb20))
      have n6_:=a0_ ((by rw [hg];exact (below_size hb_) : w.heap.size ≤ gb20))
      have n7_:=a0_ ((by rw [hg];exact Nat.ne_of_lt (blk_lt (bb_ BK1.out)) : gb1 ≠ gb20))
      have n8_:=a0_ ((by rw [hg];exact Nat.ne_of_gt (blk_lt (bb_ BK1.out)) : gb20 ≠ gb1))
      have n9_:=a0_ ((by rw [hg];exact Nat.ne_of_lt (blk_lt (bb_ BK2.out)) : gb2 ≠ gb20))
      have n10_:=a0_ ((by rw [hg];exact Nat.ne_of_gt (blk_lt (bb_ BK2.out)) : gb20 ≠ gb2))
      clear HO7
      clear BK1
      clear BK2
      clear HB
      have HO7:=n0_
      have BK1:=n1_
      have BK2:=n2_
      have HB:=n3_
      have BK20:=n4_
      have GW20:=n5_
      have GE20:=n6_
      have NB1_20:=n7_
      have NB20_1:=n8_
      have NB2_20:=n9_
      have NB20_2:=n10_
      clear n0_ n1_ n2_ n3_ n4_ n5_ n6_ n7_ n8_ n9_ n10_
      clear hb hbox hg
      refine hK.out _ _ ⟨(blk_cell BK1.out 0).trans rfl,(blk_cell BK2.out 0).trans rfl,(blk_cell BK2.out 1).trans rfl,(blk_cell BK2.out 2).trans rfl,(blk_cell BK2.out 3).trans rfl⟩ (fun hHeld=>?_)
      clear hK K
      refine norm_ (a':=?_) ?_ ?_
      rotate_left
      ·show Act.put _ (some 6) _ = _
       simp only [Act.put,s1_,s2_,s3_,i64_w,i32_w]
       rfl
      refine one_ (i:=3) (N:=some 26) #[true,true,true,true,false,false,false,false,true,false,false] rfl rfl (one_of HT_.out (by kernel_rfl)) (by decide) (fun K hK=>?_)
      refine goes_ Try.func48 (by kernel_rfl) rfl #[.agg #[.slice A1_0 l1_0.length c1_0,.int .i64 a1_1,.int .i64 a1_2,.slice A1_3 l1_3.length c1_3]] (by rfl) rfl rfl lm_ ?_
      with_reducible refine (laws_toResult.calls k _ _ l1_0 a1_1 a1_2 _ _ l1_3 t8 t11 t12 t13 _ ?side1 ?side2 ?side3 ?side4 A20.out).mono ?_
      (case side1=>exact cc_ (Kd.C_below HR1_0.out HB.out))
      (case side2=>exact HC1_0.out)
      (case side3=>exact cc_ (Kd.C_below HR1_3.out HB.out))
      (case side4=>exact HC1_3.out)
      rintro e w36 ⟨v9,v14,rfl,ho0,ho1,hb⟩
      refine ⟨_,rfl,?_⟩
      have n0_:=rb_ HO7 hb
      have n1_:=a0_ (Kd.R_lower ho0 (below_size hb_))
      have n2_:=a0_ (Kd.R_lower ho1 (below_size hb_))
      have n3_:=kb_ BK1 hb
      have n4_:=kb_ BK2 hb
      have n5_:=kb_ BK20 hb
      have n6_:=a0_ (below_step hb_ hb)
      clear HO7
      clear BK1
      clear BK2
      clear BK20
      clear HB
      have HO7:=n0_
      have HO10:=n1_
      have HO15:=n2_
      have BK1:=n3_
      have BK2:=n4_
      have BK20:=n5_
      have HB:=n6_
      clear n0_ n1_ n2_ n3_ n4_ n5_ n6_
      (try clear hb)
      (try clear hb2)
      (try clear hk)
      (try clear hi)
      (try clear ho0)
      (try clear ho1)
      obtain ⟨Ao37,co37,eo37⟩:=Kd.R_slice HO7.out
      (first | subst eo37 | (injection eo37 with f1_ f2_ f3_;have f4_:=f1_.symm;have f5_:=f3_.symm;clear f1_ f2_ f3_;subst f4_;subst f5_))
      obtain ⟨Ao38,co38,eo38⟩:=Kd.R_slice HO10.out
      (first | subst eo38 | (injection eo38 with f1_ f2_ f3_;have f4_:=f1_.symm;have f5_:=f3_.symm;clear f1_ f2_ f3_;subst f4_;subst f5_))
      obtain ⟨Ao39,co39,eo39⟩:=Kd.R_slice HO15.out
      (first | subst eo39 | (injection eo39 with f1_ f2_ f3_;have f4_:=f1_.symm;have f5_:=f3_.symm;clear f1_ f2_ f3_;subst f4_;subst f5_))
      refine hK.out _ _ ⟨(blk_cell BK1.out 0).trans rfl,(blk_cell BK2.out 0).trans rfl,(blk_cell BK2.out 1).trans rfl,(blk_cell BK2.out 2).trans rfl,(blk_cell BK2.out 3).trans rfl⟩ (fun hHeld=>?_)
      clear hK K
      refine norm_ (a':=?_) ?_ ?_
      rotate_left
      ·show Act.put _ (some 26) _ = _
       simp only [Act.put,s1_,s2_,s3_,i64_w,i32_w]
       rfl
      refine one_ (i:=4) (N:=some 27) #[true,true,true,true,true,false,false,false,true,false,false] rfl rfl (one_of HT_.out (by kernel_rfl)) (by decide) (fun K hK=>?_)
      refine goes_ Try.func47 (by kernel_rfl) rfl #[.agg #[.slice Ao37 t5.length co37],.agg #[.slice Ao38 t8.length co38,.int .i64 t11,.int .i64 t12,.slice Ao39 t13.length co39]] (by rfl) rfl rfl lm_ ?_
      with_reducible refine (spec_StartOf.calls k _ _ t5 _ _ t8 t11 t12 _ _ t13 t16 t17 t18 t19 _ ?side1 ?side2 ?side3 ?side4 ?side5 ?side6 A21.out).mono ?_
      (case side1=>exact cc_ (Kd.R_reads' HO7.out).2.2)
      (case side2=>exact (Kd.R_reads' HO7.out).2.1)
      (case side3=>exact cc_ (Kd.R_reads' HO10.out).2.2)
      (case side4=>exact (Kd.R_reads' HO10.out).2.1)
      (case side5=>exact cc_ (Kd.R_reads' HO15.out).2.2)
      (case side6=>exact (Kd.R_reads' HO15.out).2.1)
      rintro e w40 ⟨rfl,hb⟩
      refine ⟨_,rfl,?_⟩
      have n0_:=rb_ HO7 hb
      have n1_:=rb_ HO10 hb
      have n2_:=rb_ HO15 hb
      have n3_:=kb_ BK1 hb
      have n4_:=kb_ BK2 hb
      have n5_:=kb_ BK20 hb
      have n6_:=a0_ (below_step hb_ hb)
      clear HO7
      clear HO10
      clear HO15
      clear BK1
      clear BK2
      clear BK20
      clear HB
      have HO7:=n0_
      have HO10:=n1_
      have HO15:=n2_
      have BK1:=n3_
      have BK2:=n4_
      have BK20:=n5_
      have HB:=n6_
      clear n0_ n1_ n2_ n3_ n4_ n5_ n6_
      (try clear hb)
      (try clear hb2)
      (try clear hk)
      (try clear hi)
      refine hK.out _ _ ⟨(blk_cell BK1.out 0).trans rfl,(blk_cell BK2.out 0).trans rfl,(blk_cell BK2.out 1).trans rfl,(blk_cell BK2.out 2).trans rfl,(blk_cell BK2.out 3).trans rfl⟩ (fun hHeld=>?_)
      clear hK K
      refine norm_ (a':=?_) ?_ ?_
      rotate_left
      ·show Act.put _ (some 27) _ = _
       simp only [Act.put,s1_,s2_,s3_,i64_w,i32_w]
       rfl
      refine pure_ (i:=5) (N:=some 22) (v:=?_) (a':=?_) #[true,true,true,true,true,true,false,false,true,false,false] rfl rfl (any_of HT_.out (by kernel_rfl)) (fun _ _ _ h=>h) (Or.inl ⟨by rfl,?_⟩) ?_ ?_
      rotate_left
      ·intro w'
       go_simp
       with_reducible rfl
      rotate_left
      ·simp only [Act.put,s1_,s2_,s3_,i64_w,i32_w]
       rfl
      refine pure_ (i:=6) (N:=some 28) (v:=?_) (a':=?_) #[true,true,true,true,true,true,true,false,true,false,false] rfl rfl (any_of HT_.out (by kernel_rfl)) (fun _ _ _ h=>h) (Or.inl ⟨by rfl,?_⟩) ?_ ?_
      rotate_left
      ·intro w'
       go_simp
       with_reducible rfl
      rotate_left
      ·simp only [Act.put,s1_,s2_,s3_,i64_w,i32_w]
       rfl
      refine pure_ (i:=7) (N:=some 29) (v:=?_) (a':=?_) #[true,true,true,true,true,true,true,true,true,false,false] rfl rfl (any_of HT_.out (by kernel_rfl)) (fun _ _ _ h=>h) (Or.inl ⟨by rfl,?_⟩) ?_ ?_
      rotate_left
      ·intro w'
       go_simp
       with_reducible rfl
      rotate_left
      ·simp only [Act.put,s1_,s2_,s3_,i64_w,i32_w]
       rfl
      exact norm_ (by simp only [putAll,Act.put,s1_,s2_,s3_]) (hCont (.slice Ao37 t5.length co37,.slice Ao38 t8.length co38,.slice Ao39 t13.length co39,gb20) _ ⟨hHeld,(rr_ HO10.out),(rr_ HO15.out),(rr_ HO7.out),(bb_ BK1.out),(bb_ BK2.out),(bb_ BK20.out),GW20.out,GE20.out,NB1_20.out,NB20_1.out,NB2_20.out,NB20_2.out,hb_⟩)
    ·skip
     refine box_step ?hg (N:=6) ?hd (cs:=#[.bool false,.int .i64 0,.int .i64 0]) (t:=63) ?hr ?_;(case hd=>rfl);(case hg=>rfl);(case hr=>first | (go_simp;done) | (go_simp;rfl))
     intro gb20 hg w34 hbox hb
     have n0_:=kb_ BK1 hb
     have n1_:=kb_ BK2 hb
     have n2_:=a0_ (below_step hb_ hb)
     have n3_:=a0_ (hbox)
     have n4_:=a0_ ((by rw [hg];exact (below_size hb_) : w.heap.size ≤ gb20))
     have n5_:=a0_ ((by rw [hg];exact (below_size hb_) : w.heap.size ≤ gb20))
     have n6_:=a0_ ((by rw [hg];exact Nat.ne_of_lt (blk_lt (bb_ BK1.out)) : gb1 ≠ gb20))
     have n7_:=a0_ ((by rw [hg];exact Nat.ne_of_gt (blk_lt (bb_ BK1.out)) : gb20 ≠ gb1))
     have n8_:=a0_ ((by rw [hg];exact Nat.ne_of_lt (blk_lt (bb_ BK2.out)) : gb2 ≠ gb20))
     have n9_:=a0_ ((by rw [hg];exact Nat.ne_of_gt (blk_lt (bb_ BK2.out)) : gb20 ≠ gb2))
     clear BK1
     clear BK2
     clear HB
     have BK1:=n0_
     have BK2:=n1_
     have HB:=n2_
     have BK20:=n3_
     have GW20:=n4_
     have GE20:=n5_
     have NB1_20:=n6_
     have NB20_1:=n7_
     have NB2_20:=n8_
     have NB20_2:=n9_
     clear n0_ n1_ n2_ n3_ n4_ n5_ n6_ n7_ n8_ n9_
     clear hb hbox hg
     refine hK.out _ _ ⟨(blk_cell BK1.out 0).trans rfl,(blk_cell BK2.out 0).trans rfl,(blk_cell BK2.out 1).trans rfl,(blk_cell BK2.out 2).trans rfl,(blk_cell BK2.out 3).trans rfl⟩ (fun hHeld=>?_)
     clear hK K
     refine norm_ (a':=?_) ?_ ?_
     rotate_left
     ·show Act.put _ (some 6) _ = _
      simp only [Act.put,s1_,s2_,s3_,i64_w,i32_w]
      rfl
     refine one_ (i:=1) (N:=some 24) #[true,true,true,false,false,false,false,false,true,false,false] rfl rfl (one_of HT_.out (by kernel_rfl)) (by decide) (fun K hK=>?_)
     refine goes_ Try.func17 (by kernel_rfl) rfl #[.agg #[.slice A0_0 l0_0.length c0_0]] (by rfl) rfl rfl lm_ ?_
     with_reducible refine (laws_toTree.calls k _ _ l0_0 t5 _ ?side1 ?side2 A19.out).mono ?_
     (case side1=>exact cc_ (Kd.C_below HR0_0.out HB.out))
     (case side2=>exact HC0_0.out)
     rintro e w35 ⟨v6,rfl,ho0,hb⟩
     refine ⟨_,rfl,?_⟩
     have n0_:=a0_ (Kd.R_lower ho0 (below_size hb_))
     have n1_:=kb_ BK1 hb
     have n2_:=kb_ BK2 hb
     have n3_:=kb_ BK20 hb
     have n4_:=a0_ (below_step hb_ hb)
     clear BK1
     clear BK2
     clear BK20
     clear HB
     have HO7:=n0_
     have BK1:=n1_
     have BK2:=n2_
     have BK20:=n3_
     have HB:=n4_
     clear n0_ n1_ n2_ n3_ n4_
     (try clear hb)
     (try clear hb2)
     (try clear hk)
     (try clear hi)
     (try clear ho0)
     refine hK.out _ _ ⟨(blk_cell BK1.out 0).trans rfl,(blk_cell BK2.out 0).trans rfl,(blk_cell BK2.out 1).trans rfl,(blk_cell BK2.out 2).trans rfl,(blk_cell BK2.out 3).trans rfl⟩ (fun hHeld=>?_)
     clear hK K
     refine norm_ (a':=?_) ?_ ?_
     rotate_left
     ·show Act.put _ (some 24) _ = _
      simp only [Act.put,s1_,s2_,s3_,i64_w,i32_w]
      rfl
     refine one_ (i:=3) (N:=some 26) #[true,true,true,true,false,false,false,false,true,false,false] rfl rfl (one_of HT_.out (by kernel_rfl)) (by decide) (fun K hK=>?_)
     refine goes_ Try.func48 (by kernel_rfl) rfl #[.agg #[.slice A1_0 l1_0.length c1_0,.int .i64 a1_1,.int .i64 a1_2,.slice A1_3 l1_3.length c1_3]] (by rfl) rfl rfl lm_ ?_
     with_reducible refine (laws_toResult.calls k _ _ l1_0 a1_1 a1_2 _ _ l1_3 t8 t11 t12 t13 _ ?side1 ?side2 ?side3 ?side4 A20.out).mono ?_
     (case side1=>exact cc_ (Kd.C_below HR1_0.out HB.out))
     (case side2=>exact HC1_0.out)
     (case side3=>exact cc_ (Kd.C_below HR1_3.out HB.out))
     (case side4=>exact HC1_3.out)
     rintro e w36 ⟨v9,v14,rfl,ho0,ho1,hb⟩
     refine ⟨_,rfl,?_⟩
     have n0_:=rb_ HO7 hb
     have n1_:=a0_ (Kd.R_lower ho0 (below_size hb_))
     have n2_:=a0_ (Kd.R_lower ho1 (below_size hb_))
     have n3_:=kb_ BK1 hb
     have n4_:=kb_ BK2 hb
     have n5_:=kb_ BK20 hb
     have n6_:=a0_ (below_step hb_ hb)
     clear HO7
     clear BK1
     clear BK2
     clear BK20
     clear HB
     have HO7:=n0_
     have HO10:=n1_
     have HO15:=n2_
     have BK1:=n3_
     have BK2:=n4_
     have BK20:=n5_
     have HB:=n6_
     clear n0_ n1_ n2_ n3_ n4_ n5_ n6_
     (try clear hb)
     (try clear hb2)
     (try clear hk)
     (try clear hi)
     (try clear ho0)
     (try clear ho1)
     obtain ⟨Ao37,co37,eo37⟩:=Kd.R_slice HO7.out
     (first | subst eo37 | (injection eo37 with f1_ f2_ f3_;have f4_:=f1_.symm;have f5_:=f3_.symm;clear f1_ f2_ f3_;subst f4_;subst f5_))
     obtain ⟨Ao38,co38,eo38⟩:=Kd.R_slice HO10.out
     (first | subst eo38 | (injection eo38 with f1_ f2_ f3_;have f4_:=f1_.symm;have f5_:=f3_.symm;clear f1_ f2_ f3_;subst f4_;subst f5_))
     obtain ⟨Ao39,co39,eo39⟩:=Kd.R_slice HO15.out
     (first | subst eo39 | (injection eo39 with f1_ f2_ f3_;have f4_:=f1_.symm;have f5_:=f3_.symm;clear f1_ f2_ f3_;subst f4_;subst f5_))
     refine hK.out _ _ ⟨(blk_cell BK1.out 0).trans rfl,(blk_cell BK2.out 0).trans rfl,(blk_cell BK2.out 1).trans rfl,(blk_cell BK2.out 2).trans rfl,(blk_cell BK2.out 3).trans rfl⟩ (fun hHeld=>?_)
     clear hK K
     refine norm_ (a':=?_) ?_ ?_
     rotate_left
     ·show Act.put _ (some 26) _ = _
      simp only [Act.put,s1_,s2_,s3_,i64_w,i32_w]
      rfl
     refine one_ (i:=4) (N:=some 27) #[true,true,true,true,true,false,false,false,true,false,false] rfl rfl (one_of HT_.out (by kernel_rfl)) (by decide) (fun K hK=>?_)
     refine goes_ Try.func47 (by kernel_rfl) rfl #[.agg #[.slice Ao37 t5.length co37],.agg #[.slice Ao38 t8.length co38,.int .i64 t11,.int .i64 t12,.slice Ao39 t13.length co39]] (by rfl) rfl rfl lm_ ?_
     with_reducible refine (spec_StartOf.calls k _ _ t5 _ _ t8 t11 t12 _ _ t13 t16 t17 t18 t19 _ ?side1 ?side2 ?side3 ?side4 ?side5 ?side6 A21.out).mono ?_
     (case side1=>exact cc_ (Kd.R_reads' HO7.out).2.2)
     (case side2=>exact (Kd.R_reads' HO7.out).2.1)
     (case side3=>exact cc_ (Kd.R_reads' HO10.out).2.2)
     (case side4=>exact (Kd.R_reads' HO10.out).2.1)
     (case side5=>exact cc_ (Kd.R_reads' HO15.out).2.2)
     (case side6=>exact (Kd.R_reads' HO15.out).2.1)
     rintro e w40 ⟨rfl,hb⟩
     refine ⟨_,rfl,?_⟩
     have n0_:=rb_ HO7 hb
     have n1_:=rb_ HO10 hb
     have n2_:=rb_ HO15 hb
     have n3_:=kb_ BK1 hb
     have n4_:=kb_ BK2 hb
     have n5_:=kb_ BK20 hb
     have n6_:=a0_ (below_step hb_ hb)
     clear HO7
     clear HO10
     clear HO15
     clear BK1
     clear BK2
     clear BK20
     clear HB
     have HO7:=n0_
     have HO10:=n1_
     have HO15:=n2_
     have BK1:=n3_
     have BK2:=n4_
     have BK20:=n5_
     have HB:=n6_
     clear n0_ n1_ n2_ n3_ n4_ n5_ n6_
     (try clear hb)
     (try clear hb2)
     (try clear hk)
     (try clear hi)
     refine hK.out _ _ ⟨(blk_cell BK1.out 0).trans rfl,(blk_cell BK2.out 0).trans rfl,(blk_cell BK2.out 1).trans rfl,(blk_cell BK2.out 2).trans rfl,(blk_cell BK2.out 3).trans rfl⟩ (fun hHeld=>?_)
     clear hK K
     refine norm_ (a':=?_) ?_ ?_
     rotate_left
     ·show Act.put _ (some 27) _ = _
      simp only [Act.put,s1_,s2_,s3_,i64_w,i32_w]
      rfl
     refine pure_ (i:=5) (N:=some 22) (v:=?_) (a':=?_) #[true,true,true,true,true,true,false,false,true,false,false] rfl rfl (any_of HT_.out (by kernel_rfl)) (fun _ _ _ h=>h) (Or.inl ⟨by rfl,?_⟩) ?_ ?_
     rotate_left
     ·intro w'
      go_simp
      with_reducible rfl
     rotate_left
     ·simp only [Act.put,s1_,s2_,s3_,i64_w,i32_w]
      rfl
     refine pure_ (i:=6) (N:=some 28) (v:=?_) (a':=?_) #[true,true,true,true,true,true,true,false,true,false,false] rfl rfl (any_of HT_.out (by kernel_rfl)) (fun _ _ _ h=>h) (Or.inl ⟨by rfl,?_⟩) ?_ ?_
     rotate_left
     ·intro w'
      go_simp
      with_reducible rfl
     rotate_left
     ·simp only [Act.put,s1_,s2_,s3_,i64_w,i32_w]
      rfl
     refine pure_ (i:=7) (N:=some 29) (v:=?_) (a':=?_) #[true,true,true,true,true,true,true,true,true,false,false] rfl rfl (any_of HT_.out (by kernel_rfl)) (fun _ _ _ h=>h) (Or.inl ⟨by rfl,?_⟩) ?_ ?_
     rotate_left
     ·intro w'
      go_simp
      with_reducible rfl
     rotate_left
     ·simp only [Act.put,s1_,s2_,s3_,i64_w,i32_w]
      rfl
     exact norm_ (by simp only [putAll,Act.put,s1_,s2_,s3_]) (hCont (.slice Ao37 t5.length co37,.slice Ao38 t8.length co38,.slice Ao39 t13.length co39,gb20) _ ⟨hHeld,(rr_ HO10.out),(rr_ HO15.out),(rr_ HO7.out),(bb_ BK1.out),(bb_ BK2.out),(bb_ BK20.out),GW20.out,GE20.out,NB1_20.out,NB20_1.out,NB2_20.out,NB20_2.out,hb_⟩)
   rintro ⟨v6,v9,v14,gb20⟩ w41 ⟨hS_,h0_,h1_,h2_,h3_,h4_,h5_,h6_,h7_,h8_,h9_,h10_,h11_,h12_⟩
   have n0_ : Aside0 (Kd.R (Kd.int .i64) 3 w41 w.heap.size (fun _=>True) v9 t8):=⟨h0_⟩
   have n1_ : Aside0 (Kd.R k79 79 w41 w.heap.size (fun _=>True) v14 t13):=⟨h1_⟩
   have n2_ : Aside0 (Kd.R k106 106 w41 w.heap.size (fun _=>True) v6 t5):=⟨h2_⟩
   have n3_ : Aside0 (w41.heap[gb1]? = some (.cells #[.slice A0_0 l0_0.length c0_0] 24 (0,0))):=⟨h3_⟩
   have n4_ : Aside0 (w41.heap[gb2]? = some (.cells #[.slice A1_0 l1_0.length c1_0,.int .i64 a1_1,.int .i64 a1_2,.slice A1_3 l1_3.length c1_3] 60 (0,0))):=⟨h4_⟩
   have n5_ : Aside0 (w41.heap[gb20]? = some (.cells #[.bool false,.int .i64 0,.int .i64 0] 63 (0,0))):=⟨h5_⟩
   have n6_ : Aside0 (w.heap.size ≤ gb20):=⟨h6_⟩
   have n7_ : Aside0 (w.heap.size ≤ gb20):=⟨h7_⟩
   have n8_ : Aside0 (gb1 ≠ gb20):=⟨h8_⟩
   have n9_ : Aside0 (gb20 ≠ gb1):=⟨h9_⟩
   have n10_ : Aside0 (gb2 ≠ gb20):=⟨h10_⟩
   have n11_ : Aside0 (gb20 ≠ gb2):=⟨h11_⟩
   have n12_ : Aside0 (Below w.heap.size w w41):=⟨h12_⟩
   clear BK1
   clear BK2
   clear HB
   clear h0_ h1_ h2_ h3_ h4_ h5_ h6_ h7_ h8_ h9_ h10_ h11_ h12_
   have HO10:=n0_
   have HO15:=n1_
   have HO7:=n2_
   have BK1:=n3_
   have BK2:=n4_
   have BK20:=n5_
   have GW20:=n6_
   have GE20:=n7_
   have NB1_20:=n8_
   have NB20_1:=n9_
   have NB2_20:=n10_
   have NB20_2:=n11_
   have HB:=n12_
   clear n0_ n1_ n2_ n3_ n4_ n5_ n6_ n7_ n8_ n9_ n10_ n11_ n12_
   have hHeld : w41.cell? ⟨gb1,0,none⟩ = some (.slice A0_0 l0_0.length c0_0) ∧ w41.cell? ⟨gb2,0,none⟩ = some (.slice A1_0 l1_0.length c1_0) ∧ w41.cell? ⟨gb2,1,none⟩ = some (.int .i64 a1_1) ∧ w41.cell? ⟨gb2,2,none⟩ = some (.int .i64 a1_2) ∧ w41.cell? ⟨gb2,3,none⟩ = some (.slice A1_3 l1_3.length c1_3):=hS_
   refine norm_ (a':=?_) ?_ ?_
   rotate_left
   ·simp only [putAll,Act.put,s1_,s2_,s3_]
    rfl
   refine one_ (i:=9) (N:=none) #[true,true,true,true,true,true,true,true,true,true,false] rfl rfl (one_of HT_.out (by kernel_rfl)) (by decide) (fun K hK=>?_)
   have hs42 : w41.cell? ⟨gb20,0,none⟩ = some (.bool false):=(blk_cell BK20.out 0).trans rfl
   have hfs42:=blk_frozen BK20.out 0
   have hns42_0:=NB1_20.out
   have hns42_1:=NB2_20.out
   have hms42_0:=NB20_1.out
   have hms42_1:=NB20_2.out
   have hs43 : w41.cell? ⟨gb20,1,none⟩ = some (.int .i64 0):=(blk_cell BK20.out 1).trans rfl
   have hfs43:=blk_frozen BK20.out 1
   have hns43_0:=NB1_20.out
   have hns43_1:=NB2_20.out
   have hms43_0:=NB20_1.out
   have hms43_1:=NB20_2.out
   have hs44 : w41.cell? ⟨gb20,2,none⟩ = some (.int .i64 0):=(blk_cell BK20.out 2).trans rfl
   have hfs44:=blk_frozen BK20.out 2
   have hns44_0:=NB1_20.out
   have hns44_1:=NB2_20.out
   have hms44_0:=NB20_1.out
   have hms44_1:=NB20_2.out
   refine skip_ (w1:=?_) (by rfl) rfl ?_ ?_
   rotate_left
   ·go_simp
    rfl
   refine hK.out _ _ ⟨((cell_far (p:=⟨gb20,_,none⟩) NB1_20.out _).trans (((cell_far (p:=⟨gb20,_,none⟩) NB1_20.out _).trans (((cell_far (p:=⟨gb20,_,none⟩) NB1_20.out _).trans (hHeld.1)))))),((cell_far (p:=⟨gb20,_,none⟩) NB2_20.out _).trans (((cell_far (p:=⟨gb20,_,none⟩) NB2_20.out _).trans (((cell_far (p:=⟨gb20,_,none⟩) NB2_20.out _).trans (hHeld.2.1)))))),((cell_far (p:=⟨gb20,_,none⟩) NB2_20.out _).trans (((cell_far (p:=⟨gb20,_,none⟩) NB2_20.out _).trans (((cell_far (p:=⟨gb20,_,none⟩) NB2_20.out _).trans (hHeld.2.2.1)))))),((cell_far (p:=⟨gb20,_,none⟩) NB2_20.out _).trans (((cell_far (p:=⟨gb20,_,none⟩) NB2_20.out _).trans (((cell_far (p:=⟨gb20,_,none⟩) NB2_20.out _).trans (hHeld.2.2.2.1)))))),((cell_far (p:=⟨gb20,_,none⟩) NB2_20.out _).trans (((cell_far (p:=⟨gb20,_,none⟩) NB2_20.out _).trans (((cell_far (p:=⟨gb20,_,none⟩) NB2_20.out _).trans (hHeld.2.2.2.2))))))⟩ (fun hHeld=>?_)
   clear hK K
   refine pure_ (i:=10) (N:=some 7) (v:=?_) (a':=?_) #[true,true,true,true,true,true,true,true,true,true,true] rfl rfl (any_of HT_.out (by kernel_rfl)) (fun _ _ _ h=>h) (Or.inl ⟨by rfl,?_⟩) ?_ ?_
   rotate_left
   ·intro w'
    go_simp
    with_reducible rfl
   rotate_left
   ·simp only [Act.put,s1_,s2_,s3_,i64_w,i32_w]
    rfl
   refine done_ (done_of HT_.out (by kernel_rfl)) ?_
   have hnb45:=NB1_20.out
   have hnc45:=NB20_1.out
   have hcz46_0 : w41.cell? ⟨gb1,0,none⟩ = some (.slice A0_0 l0_0.length c0_0):=(blk_cell BK1.out 0).trans rfl
   have hfz46_0:=blk_frozen BK1.out 0
   go_upto_region 12 with (first | ((with_reducible refine gate_callee (f:=17) rfl ?_);refine goesL_ (some 31) rfl rfl Try.func17 (by kernel_rfl) rfl #[.agg #[.slice A0_0 l0_0.length c0_0]] rfl lm_ ?_;(with_reducible refine (laws_toTree.calls k _ _ l0_0 t21 _ ?side1 ?side2 A22.out).mono ?_);(case side1=>exact Kd.C_below HR0_0.out hb_);(case side2=>exact HC0_0.out);rintro e w47 ⟨v22,rfl,ho0,hb⟩;refine ⟨_,rfl,?_⟩;have n0_:=a0_ (Kd.R_elder' (by (with_reducible repeat (first | apply Kd.R_alloc | apply Kd.R_drewN | apply Kd.R_drew));exact (Kd.R_mono (Kd.R_far (p:=⟨gb20,2,none⟩) (Kd.R_far (p:=⟨gb20,1,none⟩) (Kd.R_far (p:=⟨gb20,0,none⟩) (Kd.R_types HO7.out BK20.out (by decide)) (fun _ hk=>hk.2) (.bool t16)) (fun _ hk=>hk.2) (.int .i64 t17)) (fun _ hk=>hk.2) (.int .i64 t18)) (fun _ h_=>h_.1))) (Kd.R_base ho0) hb);have n1_:=a0_ (Kd.R_below (by (with_reducible repeat (first | apply Kd.R_alloc | apply Kd.R_drewN | apply Kd.R_drew));exact (Kd.R_mono (Kd.R_far (p:=⟨gb20,2,none⟩) (Kd.R_far (p:=⟨gb20,1,none⟩) (Kd.R_far (p:=⟨gb20,0,none⟩) (Kd.R_types HO10.out BK20.out (by decide)) (fun _ hk=>hk.2) (.bool t16)) (fun _ hk=>hk.2) (.int .i64 t17)) (fun _ hk=>hk.2) (.int .i64 t18)) (fun _ h_=>h_.1))) hb);have n2_:=a0_ (Kd.R_below (by (with_reducible repeat (first | apply Kd.R_alloc | apply Kd.R_drewN | apply Kd.R_drew));exact (Kd.R_mono (Kd.R_far (p:=⟨gb20,2,none⟩) (Kd.R_far (p:=⟨gb20,1,none⟩) (Kd.R_far (p:=⟨gb20,0,none⟩) (Kd.R_types HO15.out BK20.out (by decide)) (fun _ hk=>hk.2) (.bool t16)) (fun _ hk=>hk.2) (.int .i64 t17)) (fun _ hk=>hk.2) (.int .i64 t18)) (fun _ h_=>h_.1))) hb);have n3_:=a0_ (Kd.R_lower (Kd.R_new' ho0 (Kd.R_lt (by (with_reducible repeat (first | apply Kd.R_alloc | apply Kd.R_drewN | apply Kd.R_drew));exact (Kd.R_mono (Kd.R_far (p:=⟨gb20,2,none⟩) (Kd.R_far (p:=⟨gb20,1,none⟩) (Kd.R_far (p:=⟨gb20,0,none⟩) (Kd.R_types HO7.out BK20.out (by decide)) (fun _ hk=>hk.2) (.bool t16)) (fun _ hk=>hk.2) (.int .i64 t17)) (fun _ hk=>hk.2) (.int .i64 t18)) (fun _ h_=>h_.1))))) (below_size hb_));have n4_:=a0_ (blk_below (g:=gb1) (o:=.cells #[.slice A0_0 l0_0.length c0_0] 24 (0,0)) (by (with_reducible repeat (first | refine blk_drewN ?_ _ | refine blk_drew ?_ | refine blk_alloc ?_ _));refine blk_far ?_ NB1_20.out _;(with_reducible repeat (first | refine blk_drewN ?_ _ | refine blk_drew ?_ | refine blk_alloc ?_ _));refine blk_far ?_ NB1_20.out _;(with_reducible repeat (first | refine blk_drewN ?_ _ | refine blk_drew ?_ | refine blk_alloc ?_ _));refine blk_far ?_ NB1_20.out _;(with_reducible repeat (first | refine blk_drewN ?_ _ | refine blk_drew ?_ | refine blk_alloc ?_ _));exact BK1.out) hb);have n5_:=a0_ (blk_below (g:=gb2) (o:=.cells #[.slice A1_0 l1_0.length c1_0,.int .i64 a1_1,.int .i64 a1_2,.slice A1_3 l1_3.length c1_3] 60 (0,0)) (by (with_reducible repeat (first | refine blk_drewN ?_ _ | refine blk_drew ?_ | refine blk_alloc ?_ _));refine blk_far ?_ NB2_20.out _;(with_reducible repeat (first | refine blk_drewN ?_ _ | refine blk_drew ?_ | refine blk_alloc ?_ _));refine blk_far ?_ NB2_20.out _;(with_reducible repeat (first | refine blk_drewN ?_ _ | refine blk_drew ?_ | refine blk_alloc ?_ _));refine blk_far ?_ NB2_20.out _;(with_reducible repeat (first | refine blk_drewN ?_ _ | refine blk_drew ?_ | refine blk_alloc ?_ _));exact BK2.out) hb);have n6_:=a0_ (blk_below (g:=gb20) (o:=.cells #[.bool t16,.int .i64 t17,.int .i64 t18] 63 (0,0)) (by (with_reducible repeat (first | refine blk_drewN ?_ _ | refine blk_drew ?_ | refine blk_alloc ?_ _));refine blk_put (cs:=#[.bool t16,.int .i64 t17,.int .i64 0]) ?_ 2 _ rfl;(with_reducible repeat (first | refine blk_drewN ?_ _ | refine blk_drew ?_ | refine blk_alloc ?_ _));refine blk_put (cs:=#[.bool t16,.int .i64 0,.int .i64 0]) ?_ 1 _ rfl;(with_reducible repeat (first | refine blk_drewN ?_ _ | refine blk_drew ?_ | refine blk_alloc ?_ _));refine blk_put (cs:=#[.bool false,.int .i64 0,.int .i64 0]) ?_ 0 _ rfl;(with_reducible repeat (first | refine blk_drewN ?_ _ | refine blk_drew ?_ | refine blk_alloc ?_ _));exact BK20.out) hb);have n7_:=a0_ (below_step hb_ hb);clear HO7 HO10;clear HO15 BK1;clear BK2 BK20 HB;have HO7:=n0_;have HO10:=n1_;have HO15:=n2_;have HO23:=n3_;have BK1:=n4_;have BK2:=n5_;have BK20:=n6_;have HB:=n7_;clear n0_ n1_ n2_ n3_ n4_ n5_ n6_ n7_;(try clear hb);(try clear ho0)) | ((with_reducible refine gate_dst (N:=8) rfl ?_);refine box_event ?hg (N:=8) ?hd (cs:=#[.slice none 0 0]) (t:=33) ?hr ?_;(case hd=>rfl);(case hg=>rfl);(case hr=>first | (go_simp;done) | (go_simp;rfl));intro gb24 hg w48 hbox hb;have n0_:=rb_ HO7 hb;have n1_:=rb_ HO10 hb;have n2_:=rb_ HO15 hb;have n3_:=rb_ HO23 hb;have n4_:=kb_ BK1 hb;have n5_:=kb_ BK2 hb;have n6_:=kb_ BK20 hb;have n7_:=a0_ (below_step hb_ hb);have n8_:=a0_ (hbox);have n9_:=a0_ ((by rw [hg];exact (below_size hb_) : w.heap.size ≤ gb24));have n10_:=a0_ ((by rw [hg];exact (below_size hb_) : w.heap.size ≤ gb24));have n11_:=a0_ ((by rw [hg];exact Nat.ne_of_lt (blk_lt (bb_ BK1.out)) : gb1 ≠ gb24));have n12_:=a0_ ((by rw [hg];exact Nat.ne_of_gt (blk_lt (bb_ BK1.out)) : gb24 ≠ gb1));have n13_:=a0_ ((by rw [hg];exact Nat.ne_of_lt (blk_lt (bb_ BK2.out)) : gb2 ≠ gb24));have n14_:=a0_ ((by rw [hg];exact Nat.ne_of_gt (blk_lt (bb_ BK2.out)) : gb24 ≠ gb2));have n15_:=a0_ ((by rw [hg];exact Nat.ne_of_lt (blk_lt (bb_ BK20.out)) : gb20 ≠ gb24));have n16_:=a0_ ((by rw [hg];exact Nat.ne_of_gt (blk_lt (bb_ BK20.out)) : gb24 ≠ gb20));clear HO7 HO10;clear HO15 HO23;clear BK1 BK2;clear BK20 HB;have HO7:=n0_;have HO10:=n1_;have HO15:=n2_;have HO23:=n3_;have BK1:=n4_;have BK2:=n5_;have BK20:=n6_;have HB:=n7_;have BK24:=n8_;have GW24:=n9_;have GE24:=n10_;have NB1_24:=n11_;have NB24_1:=n12_;have NB2_24:=n13_;have NB24_2:=n14_;have NB20_24:=n15_;have NB24_20:=n16_;clear n0_ n1_ n2_ n3_ n4_ n5_ n6_ n7_ n8_ n9_ n10_ n11_ n12_ n13_ n14_ n15_ n16_;clear hb hbox hg;obtain ⟨Ao49,co49,eo49⟩:=Kd.R_slice HO23.out;subst eo49;have hnb50:=NB24_1.out;have hnc50:=NB1_24.out;have hnb51:=NB24_2.out;have hnc51:=NB2_24.out;have hnb52:=NB24_20.out;have hnc52:=NB20_24.out;have hcz53_0 : w48.cell? ⟨gb24,0,none⟩ = some (.slice none 0 0):=(blk_cell BK24.out 0).trans rfl;have hfz53_0:=blk_frozen BK24.out 0;have hnb54:=NB2_20.out;have hnc54:=NB20_2.out;have hcz55_0 : w48.cell? ⟨gb2,0,none⟩ = some (.slice A1_0 l1_0.length c1_0):=(blk_cell BK2.out 0).trans rfl;have hcz55_1 : w48.cell? ⟨gb2,1,none⟩ = some (.int .i64 a1_1):=(blk_cell BK2.out 1).trans rfl;have hcz55_2 : w48.cell? ⟨gb2,2,none⟩ = some (.int .i64 a1_2):=(blk_cell BK2.out 2).trans rfl;have hcz55_3 : w48.cell? ⟨gb2,3,none⟩ = some (.slice A1_3 l1_3.length c1_3):=(blk_cell BK2.out 3).trans rfl;have hfz55_0:=blk_frozen BK2.out 0;have hfz55_1:=blk_frozen BK2.out 1;have hfz55_2:=blk_frozen BK2.out 2;have hfz55_3:=blk_frozen BK2.out 3) | ((with_reducible refine gate_callee (f:=48) rfl ?_);refine goesL_ (some 33) rfl rfl Try.func48 (by kernel_rfl) rfl #[.agg #[.slice A1_0 l1_0.length c1_0,.int .i64 a1_1,.int .i64 a1_2,.slice A1_3 l1_3.length c1_3]] rfl lm_ ?_;(with_reducible refine (laws_toResult.calls k _ _ l1_0 a1_1 a1_2 _ _ l1_3 t25 t28 t29 t30 _ ?side1 ?side2 ?side3 ?side4 A23.out).mono ?_);(case side1=>exact Kd.C_below HR1_0.out hb_);(case side2=>exact HC1_0.out);(case side3=>exact Kd.C_below HR1_3.out hb_);(case side4=>exact HC1_3.out);rintro e w56 ⟨v26,v31,rfl,ho0,ho1,hb⟩;refine ⟨_,rfl,?_⟩;have n0_:=a0_ (Kd.R_below (by (with_reducible repeat (first | apply Kd.R_alloc | apply Kd.R_drewN | apply Kd.R_drew));exact (Kd.R_mono (Kd.R_far (p:=⟨gb24,0,none⟩) (Kd.R_types HO7.out BK24.out (by decide)) (fun _ hk=>hk.2) (.slice Ao49 t21.length co49)) (fun _ h_=>h_.1))) hb);have n1_:=a0_ (Kd.R_elder' (by (with_reducible repeat (first | apply Kd.R_alloc | apply Kd.R_drewN | apply Kd.R_drew));exact (Kd.R_mono (Kd.R_far (p:=⟨gb24,0,none⟩) (Kd.R_types HO10.out BK24.out (by decide)) (fun _ hk=>hk.2) (.slice Ao49 t21.length co49)) (fun _ h_=>h_.1))) (Kd.R_base ho0) hb);have n2_:=a0_ (Kd.R_elder' (by (with_reducible repeat (first | apply Kd.R_alloc | apply Kd.R_drewN | apply Kd.R_drew));exact (Kd.R_mono (Kd.R_far (p:=⟨gb24,0,none⟩) (Kd.R_types HO15.out BK24.out (by decide)) (fun _ hk=>hk.2) (.slice Ao49 t21.length co49)) (fun _ h_=>h_.1))) (Kd.R_base ho1) hb);have n3_:=a0_ (Kd.R_below (by (with_reducible repeat (first | apply Kd.R_alloc | apply Kd.R_drewN | apply Kd.R_drew));exact (Kd.R_mono (Kd.R_far (p:=⟨gb24,0,none⟩) (Kd.R_types HO23.out BK24.out (by decide)) (fun _ hk=>hk.2) (.slice Ao49 t21.length co49)) (fun _ h_=>h_.1))) hb);have n4_:=a0_ (Kd.R_lower (Kd.R_new' ho0 (Kd.R_lt (by (with_reducible repeat (first | apply Kd.R_alloc | apply Kd.R_drewN | apply Kd.R_drew));exact (Kd.R_mono (Kd.R_far (p:=⟨gb24,0,none⟩) (Kd.R_types HO10.out BK24.out (by decide)) (fun _ hk=>hk.2) (.slice Ao49 t21.length co49)) (fun _ h_=>h_.1))))) (below_size hb_));have n5_:=a0_ (Kd.R_lower (Kd.R_new' ho1 (Kd.R_lt (by (with_reducible repeat (first | apply Kd.R_alloc | apply Kd.R_drewN | apply Kd.R_drew));exact (Kd.R_mono (Kd.R_far (p:=⟨gb24,0,none⟩) (Kd.R_types HO15.out BK24.out (by decide)) (fun _ hk=>hk.2) (.slice Ao49 t21.length co49)) (fun _ h_=>h_.1))))) (below_size hb_));have n6_:=kf_ BK1 NB1_24 hb;have n7_:=kf_ BK2 NB2_24 hb;have n8_:=kf_ BK20 NB20_24 hb;have n9_:=a0_ (blk_below (g:=gb24) (o:=.cells #[.slice Ao49 t21.length co49] 33 (0,0)) (by (with_reducible repeat (first | refine blk_drewN ?_ _ | refine blk_drew ?_ | refine blk_alloc ?_ _));refine blk_put (cs:=#[.slice none 0 0]) ?_ 0 _ rfl;(with_reducible repeat (first | refine blk_drewN ?_ _ | refine blk_drew ?_ | refine blk_alloc ?_ _));exact BK24.out) hb);have n10_:=a0_ (below_step hb_ hb);clear HO7 HO10;clear HO15 HO23;clear BK1 BK2;clear BK20 BK24 HB;have HO7:=n0_;have HO10:=n1_;have HO15:=n2_;have HO23:=n3_;have HO27:=n4_;have HO32:=n5_;have BK1:=n6_;have BK2:=n7_;have BK20:=n8_;have BK24:=n9_;have HB:=n10_;clear n0_ n1_ n2_ n3_ n4_ n5_ n6_ n7_ n8_ n9_ n10_;(try clear hb);(try clear ho0);(try clear ho1)) | ((with_reducible refine gate_dst (N:=9) rfl ?_);refine box_event ?hg (N:=9) ?hd (cs:=#[.slice none 0 0,.int .i64 0,.int .i64 0,.slice none 0 0]) (t:=67) ?hr ?_;(case hd=>rfl);(case hg=>rfl);(case hr=>first | (go_simp;done) | (go_simp;rfl));intro gb33 hg w57 hbox hb;have n0_:=rb_ HO7 hb;have n1_:=rb_ HO10 hb;have n2_:=rb_ HO15 hb;have n3_:=rb_ HO23 hb;have n4_:=rb_ HO27 hb;have n5_:=rb_ HO32 hb;have n6_:=kb_ BK1 hb;have n7_:=kb_ BK2 hb;have n8_:=kb_ BK20 hb;have n9_:=kb_ BK24 hb;have n10_:=a0_ (below_step hb_ hb);have n11_:=a0_ (hbox);have n12_:=a0_ ((by rw [hg];exact (below_size hb_) : w.heap.size ≤ gb33));have n13_:=a0_ ((by rw [hg];exact (below_size hb_) : w.heap.size ≤ gb33));have n14_:=a0_ ((by rw [hg];exact Nat.ne_of_lt (blk_lt (bb_ BK1.out)) : gb1 ≠ gb33));have n15_:=a0_ ((by rw [hg];exact Nat.ne_of_gt (blk_lt (bb_ BK1.out)) : gb33 ≠ gb1));have n16_:=a0_ ((by rw [hg];exact Nat.ne_of_lt (blk_lt (bb_ BK2.out)) : gb2 ≠ gb33));have n17_:=a0_ ((by rw [hg];exact Nat.ne_of_gt (blk_lt (bb_ BK2.out)) : gb33 ≠ gb2));have n18_:=a0_ ((by rw [hg];exact Nat.ne_of_lt (blk_lt (bb_ BK20.out)) : gb20 ≠ gb33));have n19_:=a0_ ((by rw [hg];exact Nat.ne_of_gt (blk_lt (bb_ BK20.out)) : gb33 ≠ gb20));have n20_:=a0_ ((by rw [hg];exact Nat.ne_of_lt (blk_lt (bb_ BK24.out)) : gb24 ≠ gb33));have n21_:=a0_ ((by rw [hg];exact Nat.ne_of_gt (blk_lt (bb_ BK24.out)) : gb33 ≠ gb24));clear HO7 HO10;clear HO15 HO23;clear HO27 HO32;clear BK1 BK2;clear BK20 BK24 HB;have HO7:=n0_;have HO10:=n1_;have HO15:=n2_;have HO23:=n3_;have HO27:=n4_;have HO32:=n5_;have BK1:=n6_;have BK2:=n7_;have BK20:=n8_;have BK24:=n9_;have HB:=n10_;have BK33:=n11_;have GW33:=n12_;have GE33:=n13_;have NB1_33:=n14_;have NB33_1:=n15_;have NB2_33:=n16_;have NB33_2:=n17_;have NB20_33:=n18_;have NB33_20:=n19_;have NB24_33:=n20_;have NB33_24:=n21_;clear n0_ n1_ n2_ n3_ n4_ n5_ n6_ n7_ n8_ n9_ n10_ n11_ n12_ n13_ n14_ n15_ n16_ n17_ n18_ n19_ n20_ n21_;clear hb hbox hg;obtain ⟨Ao58,co58,eo58⟩:=Kd.R_slice HO27.out;subst eo58;have hnb59:=NB33_1.out;have hnc59:=NB1_33.out;have hnb60:=NB33_2.out;have hnc60:=NB2_33.out;have hnb61:=NB33_20.out;have hnc61:=NB20_33.out;have hnb62:=NB33_24.out;have hnc62:=NB24_33.out;have hcz63_0 : w57.cell? ⟨gb33,0,none⟩ = some (.slice none 0 0):=(blk_cell BK33.out 0).trans rfl;have hcz63_1 : w57.cell? ⟨gb33,1,none⟩ = some (.int .i64 0):=(blk_cell BK33.out 1).trans rfl;have hcz63_2 : w57.cell? ⟨gb33,2,none⟩ = some (.int .i64 0):=(blk_cell BK33.out 2).trans rfl;have hcz63_3 : w57.cell? ⟨gb33,3,none⟩ = some (.slice none 0 0):=(blk_cell BK33.out 3).trans rfl;have hfz63_0:=blk_frozen BK33.out 0;have hfz63_1:=blk_frozen BK33.out 1;have hfz63_2:=blk_frozen BK33.out 2;have hfz63_3:=blk_frozen BK33.out 3;obtain ⟨Ao64,co64,eo64⟩:=Kd.R_slice HO32.out;subst eo64;have hcz65_0 : w57.cell? ⟨gb24,0,none⟩ = some (.slice Ao49 t21.length co49):=(blk_cell BK24.out 0).trans rfl;have hfz65_0:=blk_frozen BK24.out 0) | ((with_reducible refine gate_callee (f:=49) rfl ?_);refine goesL_ (some 37) rfl rfl Try.func49 (by kernel_rfl) rfl #[.agg #[.slice Ao49 t21.length co49],.agg #[.slice Ao58 t25.length co58,.int .i64 t28,.int .i64 t29,.slice Ao64 t30.length co64]] rfl lm_ ?_;(with_reducible refine (impl_StartOf.calls _ _ t21 _ _ t25 t28 t29 _ _ t30 t34 t35 t36 t37 _ ?side1 ?side2 ?side3 ?side4 ?side5 ?side6 A24.out).mono ?_);(case side1=>refine (Kd.R_reads' (e:=106) (base:=w.heap.size) (ok:=fun k_=>(True ∧ some k_ ≠ (v6 : Value).ownBlock)) (n:=t21.length) (c:=co49) ?_).2.2;exact (by (with_reducible repeat (first | apply Kd.R_alloc | apply Kd.R_drewN | apply Kd.R_drew));exact (Kd.R_mono (Kd.R_far (p:=⟨gb33,3,none⟩) (Kd.R_far (p:=⟨gb33,2,none⟩) (Kd.R_far (p:=⟨gb33,1,none⟩) (Kd.R_far (p:=⟨gb33,0,none⟩) (Kd.R_types HO23.out BK33.out (by decide)) (fun _ hk=>hk.2) (.slice Ao58 t25.length co58)) (fun _ hk=>hk.2) (.int .i64 t28)) (fun _ hk=>hk.2) (.int .i64 t29)) (fun _ hk=>hk.2) (.slice Ao64 t30.length co64)) (fun _ h_=>h_.1))));(case side2=>exact (Kd.R_reads' HO23.out).2.1);(case side3=>refine (Kd.R_reads' (e:=3) (base:=w.heap.size) (ok:=fun k_=>(True ∧ some k_ ≠ (v9 : Value).ownBlock)) (n:=t25.length) (c:=co58) ?_).2.2;exact (by (with_reducible repeat (first | apply Kd.R_alloc | apply Kd.R_drewN | apply Kd.R_drew));exact (Kd.R_mono (Kd.R_far (p:=⟨gb33,3,none⟩) (Kd.R_far (p:=⟨gb33,2,none⟩) (Kd.R_far (p:=⟨gb33,1,none⟩) (Kd.R_far (p:=⟨gb33,0,none⟩) (Kd.R_types HO27.out BK33.out (by decide)) (fun _ hk=>hk.2) (.slice Ao58 t25.length co58)) (fun _ hk=>hk.2) (.int .i64 t28)) (fun _ hk=>hk.2) (.int .i64 t29)) (fun _ hk=>hk.2) (.slice Ao64 t30.length co64)) (fun _ h_=>h_.1))));(case side4=>exact (Kd.R_reads' HO27.out).2.1);(case side5=>refine (Kd.R_reads' (e:=79) (base:=w.heap.size) (ok:=fun k_=>(True ∧ some k_ ≠ (v14 : Value).ownBlock)) (n:=t30.length) (c:=co64) ?_).2.2;exact (by (with_reducible repeat (first | apply Kd.R_alloc | apply Kd.R_drewN | apply Kd.R_drew));exact (Kd.R_mono (Kd.R_far (p:=⟨gb33,3,none⟩) (Kd.R_far (p:=⟨gb33,2,none⟩) (Kd.R_far (p:=⟨gb33,1,none⟩) (Kd.R_far (p:=⟨gb33,0,none⟩) (Kd.R_types HO32.out BK33.out (by decide)) (fun _ hk=>hk.2) (.slice Ao58 t25.length co58)) (fun _ hk=>hk.2) (.int .i64 t28)) (fun _ hk=>hk.2) (.int .i64 t29)) (fun _ hk=>hk.2) (.slice Ao64 t30.length co64)) (fun _ h_=>h_.1))));(case side6=>exact (Kd.R_reads' HO32.out).2.1);rintro e w66 ⟨rfl,hb⟩;refine ⟨_,rfl,?_⟩;replace HO7:=a0_ (Kd.R_below (by (with_reducible repeat (first | apply Kd.R_alloc | apply Kd.R_drewN | apply Kd.R_drew));exact (Kd.R_mono (Kd.R_far (p:=⟨gb33,3,none⟩) (Kd.R_far (p:=⟨gb33,2,none⟩) (Kd.R_far (p:=⟨gb33,1,none⟩) (Kd.R_far (p:=⟨gb33,0,none⟩) (Kd.R_types HO7.out BK33.out (by decide)) (fun _ hk=>hk.2) (.slice Ao58 t25.length co58)) (fun _ hk=>hk.2) (.int .i64 t28)) (fun _ hk=>hk.2) (.int .i64 t29)) (fun _ hk=>hk.2) (.slice Ao64 t30.length co64)) (fun _ h_=>h_.1))) hb);replace HO10:=a0_ (Kd.R_below (by (with_reducible repeat (first | apply Kd.R_alloc | apply Kd.R_drewN | apply Kd.R_drew));exact (Kd.R_mono (Kd.R_far (p:=⟨gb33,3,none⟩) (Kd.R_far (p:=⟨gb33,2,none⟩) (Kd.R_far (p:=⟨gb33,1,none⟩) (Kd.R_far (p:=⟨gb33,0,none⟩) (Kd.R_types HO10.out BK33.out (by decide)) (fun _ hk=>hk.2) (.slice Ao58 t25.length co58)) (fun _ hk=>hk.2) (.int .i64 t28)) (fun _ hk=>hk.2) (.int .i64 t29)) (fun _ hk=>hk.2) (.slice Ao64 t30.length co64)) (fun _ h_=>h_.1))) hb);replace HO15:=a0_ (Kd.R_below (by (with_reducible repeat (first | apply Kd.R_alloc | apply Kd.R_drewN | apply Kd.R_drew));exact (Kd.R_mono (Kd.R_far (p:=⟨gb33,3,none⟩) (Kd.R_far (p:=⟨gb33,2,none⟩) (Kd.R_far (p:=⟨gb33,1,none⟩) (Kd.R_far (p:=⟨gb33,0,none⟩) (Kd.R_types HO15.out BK33.out (by decide)) (fun _ hk=>hk.2) (.slice Ao58 t25.length co58)) (fun _ hk=>hk.2) (.int .i64 t28)) (fun _ hk=>hk.2) (.int .i64 t29)) (fun _ hk=>hk.2) (.slice Ao64 t30.length co64)) (fun _ h_=>h_.1))) hb);replace HO23:=a0_ (Kd.R_below (by (with_reducible repeat (first | apply Kd.R_alloc | apply Kd.R_drewN | apply Kd.R_drew));exact (Kd.R_mono (Kd.R_far (p:=⟨gb33,3,none⟩) (Kd.R_far (p:=⟨gb33,2,none⟩) (Kd.R_far (p:=⟨gb33,1,none⟩) (Kd.R_far (p:=⟨gb33,0,none⟩) (Kd.R_types HO23.out BK33.out (by decide)) (fun _ hk=>hk.2) (.slice Ao58 t25.length co58)) (fun _ hk=>hk.2) (.int .i64 t28)) (fun _ hk=>hk.2) (.int .i64 t29)) (fun _ hk=>hk.2) (.slice Ao64 t30.length co64)) (fun _ h_=>h_.1))) hb);replace HO27:=a0_ (Kd.R_below (by (with_reducible repeat (first | apply Kd.R_alloc | apply Kd.R_drewN | apply Kd.R_drew));exact (Kd.R_mono (Kd.R_far (p:=⟨gb33,3,none⟩) (Kd.R_far (p:=⟨gb33,2,none⟩) (Kd.R_far (p:=⟨gb33,1,none⟩) (Kd.R_far (p:=⟨gb33,0,none⟩) (Kd.R_types HO27.out BK33.out (by decide)) (fun _ hk=>hk.2) (.slice Ao58 t25.length co58)) (fun _ hk=>hk.2) (.int .i64 t28)) (fun _ hk=>hk.2) (.int .i64 t29)) (fun _ hk=>hk.2) (.slice Ao64 t30.length co64)) (fun _ h_=>h_.1))) hb);replace HO32:=a0_ (Kd.R_below (by (with_reducible repeat (first | apply Kd.R_alloc | apply Kd.R_drewN | apply Kd.R_drew));exact (Kd.R_mono (Kd.R_far (p:=⟨gb33,3,none⟩) (Kd.R_far (p:=⟨gb33,2,none⟩) (Kd.R_far (p:=⟨gb33,1,none⟩) (Kd.R_far (p:=⟨gb33,0,none⟩) (Kd.R_types HO32.out BK33.out (by decide)) (fun _ hk=>hk.2) (.slice Ao58 t25.length co58)) (fun _ hk=>hk.2) (.int .i64 t28)) (fun _ hk=>hk.2) (.int .i64 t29)) (fun _ hk=>hk.2) (.slice Ao64 t30.length co64)) (fun _ h_=>h_.1))) hb);replace BK1:=a0_ (blk_below (g:=gb1) (o:=.cells #[.slice A0_0 l0_0.length c0_0] 24 (0,0)) (by (with_reducible repeat (first | refine blk_drewN ?_ _ | refine blk_drew ?_ | refine blk_alloc ?_ _));refine blk_far ?_ NB1_33.out _;(with_reducible repeat (first | refine blk_drewN ?_ _ | refine blk_drew ?_ | refine blk_alloc ?_ _));refine blk_far ?_ NB1_33.out _;(with_reducible repeat (first | refine blk_drewN ?_ _ | refine blk_drew ?_ | refine blk_alloc ?_ _));refine blk_far ?_ NB1_33.out _;(with_reducible repeat (first | refine blk_drewN ?_ _ | refine blk_drew ?_ | refine blk_alloc ?_ _));refine blk_far ?_ NB1_33.out _;(with_reducible repeat (first | refine blk_drewN ?_ _ | refine blk_drew ?_ | refine blk_alloc ?_ _));exact BK1.out) hb);replace BK2:=a0_ (blk_below (g:=gb2) (o:=.cells #[.slice A1_0 l1_0.length c1_0,.int .i64 a1_1,.int .i64 a1_2,.slice A1_3 l1_3.length c1_3] 60 (0,0)) (by (with_reducible repeat (first | refine blk_drewN ?_ _ | refine blk_drew ?_ | refine blk_alloc ?_ _));refine blk_far ?_ NB2_33.out _;(with_reducible repeat (first | refine blk_drewN ?_ _ | refine blk_drew ?_ | refine blk_alloc ?_ _));refine blk_far ?_ NB2_33.out _;(with_reducible repeat (first | refine blk_drewN ?_ _ | refine blk_drew ?_ | refine blk_alloc ?_ _));refine blk_far ?_ NB2_33.out _;(with_reducible repeat (first | refine blk_drewN ?_ _ | refine blk_drew ?_ | refine blk_alloc ?_ _));refine blk_far ?_ NB2_33.out _;(with_reducible repeat (first | refine blk_drewN ?_ _ | refine blk_drew ?_ | refine blk_alloc ?_ _));exact BK2.out) hb);replace BK20:=a0_ (blk_below (g:=gb20) (o:=.cells #[.bool t16,.int .i64 t17,.int .i64 t18] 63 (0,0)) (by (with_reducible repeat (first | refine blk_drewN ?_ _ | refine blk_drew ?_ | refine blk_alloc ?_ _));refine blk_far ?_ NB20_33.out _;(with_reducible repeat (first | refine blk_drewN ?_ _ | refine blk_drew ?_ | refine blk_alloc ?_ _));refine blk_far ?_ NB20_33.out _;(with_reducible repeat (first | refine blk_drewN ?_ _ | refine blk_drew ?_ | refine blk_alloc ?_ _));refine blk_far ?_ NB20_33.out _;(with_reducible repeat (first | refine blk_drewN ?_ _ | refine blk_drew ?_ | refine blk_alloc ?_ _));refine blk_far ?_ NB20_33.out _;(with_reducible repeat (first | refine blk_drewN ?_ _ | refine blk_drew ?_ | refine blk_alloc ?_ _));exact BK20.out) hb);replace BK24:=a0_ (blk_below (g:=gb24) (o:=.cells #[.slice Ao49 t21.length co49] 33 (0,0)) (by (with_reducible repeat (first | refine blk_drewN ?_ _ | refine blk_drew ?_ | refine blk_alloc ?_ _));refine blk_far ?_ NB24_33.out _;(with_reducible repeat (first | refine blk_drewN ?_ _ | refine blk_drew ?_ | refine blk_alloc ?_ _));refine blk_far ?_ NB24_33.out _;(with_reducible repeat (first | refine blk_drewN ?_ _ | refine blk_drew ?_ | refine blk_alloc ?_ _));refine blk_far ?_ NB24_33.out _;(with_reducible repeat (first | refine blk_drewN ?_ _ | refine blk_drew ?_ | refine blk_alloc ?_ _));refine blk_far ?_ NB24_33.out _;(with_reducible repeat (first | refine blk_drewN ?_ _ | refine blk_drew ?_ | refine blk_alloc ?_ _));exact BK24.out) hb);replace BK33:=a0_ (blk_below (g:=gb33) (o:=.cells #[.slice Ao58 t25.length co58,.int .i64 t28,.int .i64 t29,.slice Ao64 t30.length co64] 67 (0,0)) (by (with_reducible repeat (first | refine blk_drewN ?_ _ | refine blk_drew ?_ | refine blk_alloc ?_ _));refine blk_put (cs:=#[.slice Ao58 t25.length co58,.int .i64 t28,.int .i64 t29,.slice none 0 0]) ?_ 3 _ rfl;(with_reducible repeat (first | refine blk_drewN ?_ _ | refine blk_drew ?_ | refine blk_alloc ?_ _));refine blk_put (cs:=#[.slice Ao58 t25.length co58,.int .i64 t28,.int .i64 0,.slice none 0 0]) ?_ 2 _ rfl;(with_reducible repeat (first | refine blk_drewN ?_ _ | refine blk_drew ?_ | refine blk_alloc ?_ _));refine blk_put (cs:=#[.slice Ao58 t25.length co58,.int .i64 0,.int .i64 0,.slice none 0 0]) ?_ 1 _ rfl;(with_reducible repeat (first | refine blk_drewN ?_ _ | refine blk_drew ?_ | refine blk_alloc ?_ _));refine blk_put (cs:=#[.slice none 0 0,.int .i64 0,.int .i64 0,.slice none 0 0]) ?_ 0 _ rfl;(with_reducible repeat (first | refine blk_drewN ?_ _ | refine blk_drew ?_ | refine blk_alloc ?_ _));exact BK33.out) hb);replace HB:=a0_ (below_step hb_ hb);(try clear hb);(try clear hb2);(try clear hk);(try clear hi)) | ((with_reducible refine gate_dst (N:=10) rfl ?_);refine box_event ?hg (N:=10) ?hd (cs:=#[.bool false,.int .i64 0,.int .i64 0]) (t:=63) ?hr ?_;(case hd=>rfl);(case hg=>rfl);(case hr=>first | (go_simp;done) | (go_simp;rfl));intro gb38 hg w67 hbox hb;have n0_:=rb_ HO7 hb;have n1_:=rb_ HO10 hb;have n2_:=rb_ HO15 hb;have n3_:=rb_ HO23 hb;have n4_:=rb_ HO27 hb;have n5_:=rb_ HO32 hb;have n6_:=kb_ BK1 hb;have n7_:=kb_ BK2 hb;have n8_:=kb_ BK20 hb;have n9_:=kb_ BK24 hb;have n10_:=kb_ BK33 hb;have n11_:=a0_ (below_step hb_ hb);have n12_:=a0_ (hbox);have n13_:=a0_ ((by rw [hg];exact (below_size hb_) : w.heap.size ≤ gb38));have n14_:=a0_ ((by rw [hg];exact (below_size hb_) : w.heap.size ≤ gb38));have n15_:=a0_ ((by rw [hg];exact Nat.ne_of_lt (blk_lt (bb_ BK1.out)) : gb1 ≠ gb38));have n16_:=a0_ ((by rw [hg];exact Nat.ne_of_gt (blk_lt (bb_ BK1.out)) : gb38 ≠ gb1));have n17_:=a0_ ((by rw [hg];exact Nat.ne_of_lt (blk_lt (bb_ BK2.out)) : gb2 ≠ gb38));have n18_:=a0_ ((by rw [hg];exact Nat.ne_of_gt (blk_lt (bb_ BK2.out)) : gb38 ≠ gb2));have n19_:=a0_ ((by rw [hg];exact Nat.ne_of_lt (blk_lt (bb_ BK20.out)) : gb20 ≠ gb38));have n20_:=a0_ ((by rw [hg];exact Nat.ne_of_gt (blk_lt (bb_ BK20.out)) : gb38 ≠ gb20));have n21_:=a0_ ((by rw [hg];exact Nat.ne_of_lt (blk_lt (bb_ BK24.out)) : gb24 ≠ gb38));have n22_:=a0_ ((by rw [hg];exact Nat.ne_of_gt (blk_lt (bb_ BK24.out)) : gb38 ≠ gb24));have n23_:=a0_ ((by rw [hg];exact Nat.ne_of_lt (blk_lt (bb_ BK33.out)) : gb33 ≠ gb38));have n24_:=a0_ ((by rw [hg];exact Nat.ne_of_gt (blk_lt (bb_ BK33.out)) : gb38 ≠ gb33));clear HO7 HO10;clear HO15 HO23;clear HO27 HO32;clear BK1 BK2;clear BK20 BK24;clear BK33 HB;have HO7:=n0_;have HO10:=n1_;have HO15:=n2_;have HO23:=n3_;have HO27:=n4_;have HO32:=n5_;have BK1:=n6_;have BK2:=n7_;have BK20:=n8_;have BK24:=n9_;have BK33:=n10_;have HB:=n11_;have BK38:=n12_;have GW38:=n13_;have GE38:=n14_;have NB1_38:=n15_;have NB38_1:=n16_;have NB2_38:=n17_;have NB38_2:=n18_;have NB20_38:=n19_;have NB38_20:=n20_;have NB24_38:=n21_;have NB38_24:=n22_;have NB33_38:=n23_;have NB38_33:=n24_;clear n0_ n1_ n2_ n3_ n4_ n5_ n6_ n7_ n8_ n9_ n10_ n11_ n12_ n13_ n14_ n15_ n16_ n17_ n18_ n19_ n20_ n21_ n22_ n23_ n24_;clear hb hbox hg;have hnb68:=NB38_1.out;have hnc68:=NB1_38.out;have hnb69:=NB38_2.out;have hnc69:=NB2_38.out;have hnb70:=NB38_20.out;have hnc70:=NB20_38.out;have hnb71:=NB38_24.out;have hnc71:=NB24_38.out;have hnb72:=NB38_33.out;have hnc72:=NB33_38.out;have hcz73_0 : w67.cell? ⟨gb38,0,none⟩ = some (.bool false):=(blk_cell BK38.out 0).trans rfl;have hcz73_1 : w67.cell? ⟨gb38,1,none⟩ = some (.int .i64 0):=(blk_cell BK38.out 1).trans rfl;have hcz73_2 : w67.cell? ⟨gb38,2,none⟩ = some (.int .i64 0):=(blk_cell BK38.out 2).trans rfl;have hfz73_0:=blk_frozen BK38.out 0;have hfz73_1:=blk_frozen BK38.out 1;have hfz73_2:=blk_frozen BK38.out 2))
   (try simp only [Act.put,s1_,s2_,s3_])
   go_cut [48] (fun v48 wc=>∃ (kq : Nat) (x48_24 : Bool),v48 = .bool x48_24 ∧ Aside0 (laws_FnExactStartOf.j0 kq x48_24 l0_0 l1_0 a1_1 a1_2 l1_3 t21 t25 t28 t29 t30 = some r) ∧ Aside0 (kq ≤ k) ∧ Aside0 (Kd.R k106 106 wc w.heap.size (fun _=>True) (.slice Ao49 t21.length co49) t21) ∧ Aside0 (Kd.R (Kd.int .i64) 3 wc w.heap.size (fun _=>True) (.slice Ao58 t25.length co58) t25) ∧ Aside0 (Kd.R k79 79 wc w.heap.size (fun _=>True) (.slice Ao64 t30.length co64) t30) ∧ Aside0 (wc.heap[gb1]? = some (.cells #[(.slice A0_0 l0_0.length c0_0)] 24 (0,0))) ∧ Aside0 (wc.heap[gb2]? = some (.cells #[(.slice A1_0 l1_0.length c1_0),.int .i64 a1_1,.int .i64 a1_2,(.slice A1_3 l1_3.length c1_3)] 60 (0,0))) ∧ Aside0 (wc.heap[gb20]? = some (.cells #[.bool t16,.int .i64 t17,.int .i64 t18] 63 (0,0))) ∧ Aside0 (wc.heap[gb24]? = some (.cells #[(.slice Ao49 t21.length co49)] 33 (0,0))) ∧ Aside0 (wc.heap[gb33]? = some (.cells #[(.slice Ao58 t25.length co58),.int .i64 t28,.int .i64 t29,(.slice Ao64 t30.length co64)] 67 (0,0))) ∧ Aside0 (wc.heap[gb38]? = some (.cells #[.bool t34,.int .i64 t35,.int .i64 t36] 63 (0,0))) ∧ Aside0 (Below w.heap.size w wc))
   case first =>
    have H:=HC25.out
    clear HC25
    replace H:=Option.bind_eq_some_iff.mp H
    obtain ⟨t39,A740,H⟩:=H
    replace H : (if t39 = true then (laws_FnExactStartOf.j0 k (t37 != t19) l0_0 l1_0 a1_1 a1_2 l1_3 t21 t25 t28 t29 t30) else (laws_FnExactStartOf.j0 k true l0_0 l1_0 a1_1 a1_2 l1_3 t21 t25 t28 t29 t30)) = some r:=H
    have A74:=a0_ A740
    clear A740
    by_cases c75 : t39 = true
    ·subst c75
     have H1 : (laws_FnExactStartOf.j0 k (t37 != t19) l0_0 l1_0 a1_1 a1_2 l1_3 t21 t25 t28 t29 t30) = some r:=by rw [if_pos rfl] at H;exact H
     clear H
     have H:=H1
     clear H1
     have H':=a0_ H
     clear H
     have hnb76:=NB38_1.out
     have hnc76:=NB1_38.out
     have hnb77:=NB38_2.out
     have hnc77:=NB2_38.out
     have hnb78:=NB38_20.out
     have hnc78:=NB20_38.out
     have hnb79:=NB38_24.out
     have hnc79:=NB24_38.out
     have hnb80:=NB38_33.out
     have hnc80:=NB33_38.out
     have hcz81_0 : w67.cell? ⟨gb38,0,none⟩ = some (.bool false):=(blk_cell BK38.out 0).trans rfl
     have hcz81_1 : w67.cell? ⟨gb38,1,none⟩ = some (.int .i64 0):=(blk_cell BK38.out 1).trans rfl
     have hcz81_2 : w67.cell? ⟨gb38,2,none⟩ = some (.int .i64 0):=(blk_cell BK38.out 2).trans rfl
     have hfz81_0:=blk_frozen BK38.out 0
     have hfz81_1:=blk_frozen BK38.out 1
     have hfz81_2:=blk_frozen BK38.out 2
     have hnb82:=NB20_1.out
     have hnc82:=NB1_20.out
     have hnb83:=NB20_2.out
     have hnc83:=NB2_20.out
     have hnb84:=NB20_24.out
     have hnc84:=NB24_20.out
     have hnb85:=NB20_33.out
     have hnc85:=NB33_20.out
     have hcz86_0 : w67.cell? ⟨gb20,0,none⟩ = some (.bool t16):=(blk_cell BK20.out 0).trans rfl
     have hcz86_1 : w67.cell? ⟨gb20,1,none⟩ = some (.int .i64 t17):=(blk_cell BK20.out 1).trans rfl
     have hcz86_2 : w67.cell? ⟨gb20,2,none⟩ = some (.int .i64 t18):=(blk_cell BK20.out 2).trans rfl
     have hfz86_0:=blk_frozen BK20.out 0
     have hfz86_1:=blk_frozen BK20.out 1
     have hfz86_2:=blk_frozen BK20.out 2
     go_wp2_with (first | ((with_reducible refine gate_callee (f:=50) rfl ?_);refine goesL_ (some 42) rfl rfl Try.func50 (by kernel_rfl) rfl #[.agg #[.bool t34,.int .i64 t35,.int .i64 t36],.agg #[.bool t16,.int .i64 t17,.int .i64 t18]] rfl lm_ ?_;(with_reducible refine (laws_eqStart.calls t34 t35 t36 t16 t17 t18 true _ A74.out).mono ?_);rintro e w87 ⟨rfl,hb⟩;refine ⟨_,rfl,?_⟩;replace HO7:=a0_ (Kd.R_below (by (with_reducible repeat (first | apply Kd.R_alloc | apply Kd.R_drewN | apply Kd.R_drew));exact (Kd.R_mono (Kd.R_far (p:=⟨gb38,2,none⟩) (Kd.R_far (p:=⟨gb38,1,none⟩) (Kd.R_far (p:=⟨gb38,0,none⟩) (Kd.R_types HO7.out BK38.out (by decide)) (fun _ hk=>hk.2) (.bool t34)) (fun _ hk=>hk.2) (.int .i64 t35)) (fun _ hk=>hk.2) (.int .i64 t36)) (fun _ h_=>h_.1))) hb);replace HO10:=a0_ (Kd.R_below (by (with_reducible repeat (first | apply Kd.R_alloc | apply Kd.R_drewN | apply Kd.R_drew));exact (Kd.R_mono (Kd.R_far (p:=⟨gb38,2,none⟩) (Kd.R_far (p:=⟨gb38,1,none⟩) (Kd.R_far (p:=⟨gb38,0,none⟩) (Kd.R_types HO10.out BK38.out (by decide)) (fun _ hk=>hk.2) (.bool t34)) (fun _ hk=>hk.2) (.int .i64 t35)) (fun _ hk=>hk.2) (.int .i64 t36)) (fun _ h_=>h_.1))) hb);replace HO15:=a0_ (Kd.R_below (by (with_reducible repeat (first | apply Kd.R_alloc | apply Kd.R_drewN | apply Kd.R_drew));exact (Kd.R_mono (Kd.R_far (p:=⟨gb38,2,none⟩) (Kd.R_far (p:=⟨gb38,1,none⟩) (Kd.R_far (p:=⟨gb38,0,none⟩) (Kd.R_types HO15.out BK38.out (by decide)) (fun _ hk=>hk.2) (.bool t34)) (fun _ hk=>hk.2) (.int .i64 t35)) (fun _ hk=>hk.2) (.int .i64 t36)) (fun _ h_=>h_.1))) hb);replace HO23:=a0_ (Kd.R_below (by (with_reducible repeat (first | apply Kd.R_alloc | apply Kd.R_drewN | apply Kd.R_drew));exact (Kd.R_mono (Kd.R_far (p:=⟨gb38,2,none⟩) (Kd.R_far (p:=⟨gb38,1,none⟩) (Kd.R_far (p:=⟨gb38,0,none⟩) (Kd.R_types HO23.out BK38.out (by decide)) (fun _ hk=>hk.2) (.bool t34)) (fun _ hk=>hk.2) (.int .i64 t35)) (fun _ hk=>hk.2) (.int .i64 t36)) (fun _ h_=>h_.1))) hb);replace HO27:=a0_ (Kd.R_below (by (with_reducible repeat (first | apply Kd.R_alloc | apply Kd.R_drewN | apply Kd.R_drew));exact (Kd.R_mono (Kd.R_far (p:=⟨gb38,2,none⟩) (Kd.R_far (p:=⟨gb38,1,none⟩) (Kd.R_far (p:=⟨gb38,0,none⟩) (Kd.R_types HO27.out BK38.out (by decide)) (fun _ hk=>hk.2) (.bool t34)) (fun _ hk=>hk.2) (.int .i64 t35)) (fun _ hk=>hk.2) (.int .i64 t36)) (fun _ h_=>h_.1))) hb);replace HO32:=a0_ (Kd.R_below (by (with_reducible repeat (first | apply Kd.R_alloc | apply Kd.R_drewN | apply Kd.R_drew));exact (Kd.R_mono (Kd.R_far (p:=⟨gb38,2,none⟩) (Kd.R_far (p:=⟨gb38,1,none⟩) (Kd.R_far (p:=⟨gb38,0,none⟩) (Kd.R_types HO32.out BK38.out (by decide)) (fun _ hk=>hk.2) (.bool t34)) (fun _ hk=>hk.2) (.int .i64 t35)) (fun _ hk=>hk.2) (.int .i64 t36)) (fun _ h_=>h_.1))) hb);replace BK1:=a0_ (blk_below (g:=gb1) (o:=.cells #[.slice A0_0 l0_0.length c0_0] 24 (0,0)) (by (with_reducible repeat (first | refine blk_drewN ?_ _ | refine blk_drew ?_ | refine blk_alloc ?_ _));refine blk_far ?_ NB1_38.out _;(with_reducible repeat (first | refine blk_drewN ?_ _ | refine blk_drew ?_ | refine blk_alloc ?_ _));refine blk_far ?_ NB1_38.out _;(with_reducible repeat (first | refine blk_drewN ?_ _ | refine blk_drew ?_ | refine blk_alloc ?_ _));refine blk_far ?_ NB1_38.out _;(with_reducible repeat (first | refine blk_drewN ?_ _ | refine blk_drew ?_ | refine blk_alloc ?_ _));exact BK1.out) hb);replace BK2:=a0_ (blk_below (g:=gb2) (o:=.cells #[.slice A1_0 l1_0.length c1_0,.int .i64 a1_1,.int .i64 a1_2,.slice A1_3 l1_3.length c1_3] 60 (0,0)) (by (with_reducible repeat (first | refine blk_drewN ?_ _ | refine blk_drew ?_ | refine blk_alloc ?_ _));refine blk_far ?_ NB2_38.out _;(with_reducible repeat (first | refine blk_drewN ?_ _ | refine blk_drew ?_ | refine blk_alloc ?_ _));refine blk_far ?_ NB2_38.out _;(with_reducible repeat (first | refine blk_drewN ?_ _ | refine blk_drew ?_ | refine blk_alloc ?_ _));refine blk_far ?_ NB2_38.out _;(with_reducible repeat (first | refine blk_drewN ?_ _ | refine blk_drew ?_ | refine blk_alloc ?_ _));exact BK2.out) hb);replace BK20:=a0_ (blk_below (g:=gb20) (o:=.cells #[.bool t16,.int .i64 t17,.int .i64 t18] 63 (0,0)) (by (with_reducible repeat (first | refine blk_drewN ?_ _ | refine blk_drew ?_ | refine blk_alloc ?_ _));refine blk_far ?_ NB20_38.out _;(with_reducible repeat (first | refine blk_drewN ?_ _ | refine blk_drew ?_ | refine blk_alloc ?_ _));refine blk_far ?_ NB20_38.out _;(with_reducible repeat (first | refine blk_drewN ?_ _ | refine blk_drew ?_ | refine blk_alloc ?_ _));refine blk_far ?_ NB20_38.out _;(with_reducible repeat (first | refine blk_drewN ?_ _ | refine blk_drew ?_ | refine blk_alloc ?_ _));exact BK20.out) hb);replace BK24:=a0_ (blk_below (g:=gb24) (o:=.cells #[.slice Ao49 t21.length co49] 33 (0,0)) (by (with_reducible repeat (first | refine blk_drewN ?_ _ | refine blk_drew ?_ | refine blk_alloc ?_ _));refine blk_far ?_ NB24_38.out _;(with_reducible repeat (first | refine blk_drewN ?_ _ | refine blk_drew ?_ | refine blk_alloc ?_ _));refine blk_far ?_ NB24_38.out _;(with_reducible repeat (first | refine blk_drewN ?_ _ | refine blk_drew ?_ | refine blk_alloc ?_ _));refine blk_far ?_ NB24_38.out _;(with_reducible repeat (first | refine blk_drewN ?_ _ | refine blk_drew ?_ | refine blk_alloc ?_ _));exact BK24.out) hb);replace BK33:=a0_ (blk_below (g:=gb33) (o:=.cells #[.slice Ao58 t25.length co58,.int .i64 t28,.int .i64 t29,.slice Ao64 t30.length co64] 67 (0,0)) (by (with_reducible repeat (first | refine blk_drewN ?_ _ | refine blk_drew ?_ | refine blk_alloc ?_ _));refine blk_far ?_ NB33_38.out _;(with_reducible repeat (first | refine blk_drewN ?_ _ | refine blk_drew ?_ | refine blk_alloc ?_ _));refine blk_far ?_ NB33_38.out _;(with_reducible repeat (first | refine blk_drewN ?_ _ | refine blk_drew ?_ | refine blk_alloc ?_ _));refine blk_far ?_ NB33_38.out _;(with_reducible repeat (first | refine blk_drewN ?_ _ | refine blk_drew ?_ | refine blk_alloc ?_ _));exact BK33.out) hb);replace BK38:=a0_ (blk_below (g:=gb38) (o:=.cells #[.bool t34,.int .i64 t35,.int .i64 t36] 63 (0,0)) (by (with_reducible repeat (first | refine blk_drewN ?_ _ | refine blk_drew ?_ | refine blk_alloc ?_ _));refine blk_put (cs:=#[.bool t34,.int .i64 t35,.int .i64 0]) ?_ 2 _ rfl;(with_reducible repeat (first | refine blk_drewN ?_ _ | refine blk_drew ?_ | refine blk_alloc ?_ _));refine blk_put (cs:=#[.bool t34,.int .i64 0,.int .i64 0]) ?_ 1 _ rfl;(with_reducible repeat (first | refine blk_drewN ?_ _ | refine blk_drew ?_ | refine blk_alloc ?_ _));refine blk_put (cs:=#[.bool false,.int .i64 0,.int .i64 0]) ?_ 0 _ rfl;(with_reducible repeat (first | refine blk_drewN ?_ _ | refine blk_drew ?_ | refine blk_alloc ?_ _));exact BK38.out) hb);replace HB:=a0_ (below_step hb_ hb);(try clear hb);(try clear hb2);(try clear hk);(try clear hi)))
     go_meet
     case rel=>exact ⟨_,((t37 != t19)),(by first | rfl | (simp;done) | (simp [*];done)),H',⟨by first | omega | exact Nat.le_refl _⟩,⟨by (with_reducible repeat (first | apply Kd.R_alloc | apply Kd.R_drewN | apply Kd.R_drew));exact Kd.R_mono HO23.out (fun _ hk=>trivial)⟩,⟨by (with_reducible repeat (first | apply Kd.R_alloc | apply Kd.R_drewN | apply Kd.R_drew));exact Kd.R_mono HO27.out (fun _ hk=>trivial)⟩,⟨by (with_reducible repeat (first | apply Kd.R_alloc | apply Kd.R_drewN | apply Kd.R_drew));exact Kd.R_mono HO32.out (fun _ hk=>trivial)⟩,⟨by (with_reducible repeat (first | refine blk_drewN ?_ _ | refine blk_drew ?_ | refine blk_alloc ?_ _));exact BK1.out⟩,⟨by (with_reducible repeat (first | refine blk_drewN ?_ _ | refine blk_drew ?_ | refine blk_alloc ?_ _));exact BK2.out⟩,⟨by (with_reducible repeat (first | refine blk_drewN ?_ _ | refine blk_drew ?_ | refine blk_alloc ?_ _));exact BK20.out⟩,⟨by (with_reducible repeat (first | refine blk_drewN ?_ _ | refine blk_drew ?_ | refine blk_alloc ?_ _));exact BK24.out⟩,⟨by (with_reducible repeat (first | refine blk_drewN ?_ _ | refine blk_drew ?_ | refine blk_alloc ?_ _));exact BK33.out⟩,⟨by (with_reducible repeat (first | refine blk_drewN ?_ _ | refine blk_drew ?_ | refine blk_alloc ?_ _));exact BK38.out⟩,⟨hb_⟩⟩
    ·replace c75:=Bool.eq_false_iff.mpr c75
     subst c75
     have H1 : (laws_FnExactStartOf.j0 k true l0_0 l1_0 a1_1 a1_2 l1_3 t21 t25 t28 t29 t30) = some r:=by rw [if_neg (show ¬ (false = true) by decide)] at H;exact H
     clear H
     have H:=H1
     clear H1
     have H':=a0_ H
     clear H
     have hnb88:=NB38_1.out
     have hnc88:=NB1_38.out
     have hnb89:=NB38_2.out
     have hnc89:=NB2_38.out
     have hnb90:=NB38_20.out
     have hnc90:=NB20_38.out
     have hnb91:=NB38_24.out
     have hnc91:=NB24_38.out
     have hnb92:=NB38_33.out
     have hnc92:=NB33_38.out
     have hcz93_0 : w67.cell? ⟨gb38,0,none⟩ = some (.bool false):=(blk_cell BK38.out 0).trans rfl
     have hcz93_1 : w67.cell? ⟨gb38,1,none⟩ = some (.int .i64 0):=(blk_cell BK38.out 1).trans rfl
     have hcz93_2 : w67.cell? ⟨gb38,2,none⟩ = some (.int .i64 0):=(blk_cell BK38.out 2).trans rfl
     have hfz93_0:=blk_frozen BK38.out 0
     have hfz93_1:=blk_frozen BK38.out 1
     have hfz93_2:=blk_frozen BK38.out 2
     have hnb94:=NB20_1.out
     have hnc94:=NB1_20.out
     have hnb95:=NB20_2.out
     have hnc95:=NB2_20.out
     have hnb96:=NB20_24.out
     have hnc96:=NB24_20.out
     have hnb97:=NB20_33.out
     have hnc97:=NB33_20.out
     have hcz98_0 : w67.cell? ⟨gb20,0,none⟩ = some (.bool t16):=(blk_cell BK20.out 0).trans rfl
     have hcz98_1 : w67.cell? ⟨gb20,1,none⟩ = some (.int .i64 t17):=(blk_cell BK20.out 1).trans rfl
     have hcz98_2 : w67.cell? ⟨gb20,2,none⟩ = some (.int .i64 t18):=(blk_cell BK20.out 2).trans rfl
     have hfz98_0:=blk_frozen BK20.out 0
     have hfz98_1:=blk_frozen BK20.out 1
     have hfz98_2:=blk_frozen BK20.out 2
     go_wp2_with (first | ((with_reducible refine gate_callee (f:=50) rfl ?_);refine goesL_ (some 42) rfl rfl Try.func50 (by kernel_rfl) rfl #[.agg #[.bool t34,.int .i64 t35,.int .i64 t36],.agg #[.bool t16,.int .i64 t17,.int .i64 t18]] rfl lm_ ?_;(with_reducible refine (laws_eqStart.calls t34 t35 t36 t16 t17 t18 false _ A74.out).mono ?_);rintro e w99 ⟨rfl,hb⟩;refine ⟨_,rfl,?_⟩;replace HO7:=a0_ (Kd.R_below (by (with_reducible repeat (first | apply Kd.R_alloc | apply Kd.R_drewN | apply Kd.R_drew));exact (Kd.R_mono (Kd.R_far (p:=⟨gb38,2,none⟩) (Kd.R_far (p:=⟨gb38,1,none⟩) (Kd.R_far (p:=⟨gb38,0,none⟩) (Kd.R_types HO7.out BK38.out (by decide)) (fun _ hk=>hk.2) (.bool t34)) (fun _ hk=>hk.2) (.int .i64 t35)) (fun _ hk=>hk.2) (.int .i64 t36)) (fun _ h_=>h_.1))) hb);replace HO10:=a0_ (Kd.R_below (by (with_reducible repeat (first | apply Kd.R_alloc | apply Kd.R_drewN | apply Kd.R_drew));exact (Kd.R_mono (Kd.R_far (p:=⟨gb38,2,none⟩) (Kd.R_far (p:=⟨gb38,1,none⟩) (Kd.R_far (p:=⟨gb38,0,none⟩) (Kd.R_types HO10.out BK38.out (by decide)) (fun _ hk=>hk.2) (.bool t34)) (fun _ hk=>hk.2) (.int .i64 t35)) (fun _ hk=>hk.2) (.int .i64 t36)) (fun _ h_=>h_.1))) hb);replace HO15:=a0_ (Kd.R_below (by (with_reducible repeat (first | apply Kd.R_alloc | apply Kd.R_drewN | apply Kd.R_drew));exact (Kd.R_mono (Kd.R_far (p:=⟨gb38,2,none⟩) (Kd.R_far (p:=⟨gb38,1,none⟩) (Kd.R_far (p:=⟨gb38,0,none⟩) (Kd.R_types HO15.out BK38.out (by decide)) (fun _ hk=>hk.2) (.bool t34)) (fun _ hk=>hk.2) (.int .i64 t35)) (fun _ hk=>hk.2) (.int .i64 t36)) (fun _ h_=>h_.1))) hb);replace HO23:=a0_ (Kd.R_below (by (with_reducible repeat (first | apply Kd.R_alloc | apply Kd.R_drewN | apply Kd.R_drew));exact (Kd.R_mono (Kd.R_far (p:=⟨gb38,2,none⟩) (Kd.R_far (p:=⟨gb38,1,none⟩) (Kd.R_far (p:=⟨gb38,0,none⟩) (Kd.R_types HO23.out BK38.out (by decide)) (fun _ hk=>hk.2) (.bool t34)) (fun _ hk=>hk.2) (.int .i64 t35)) (fun _ hk=>hk.2) (.int .i64 t36)) (fun _ h_=>h_.1))) hb);replace HO27:=a0_ (Kd.R_below (by (with_reducible repeat (first | apply Kd.R_alloc | apply Kd.R_drewN | apply Kd.R_drew));exact (Kd.R_mono (Kd.R_far (p:=⟨gb38,2,none⟩) (Kd.R_far (p:=⟨gb38,1,none⟩) (Kd.R_far (p:=⟨gb38,0,none⟩) (Kd.R_types HO27.out BK38.out (by decide)) (fun _ hk=>hk.2) (.bool t34)) (fun _ hk=>hk.2) (.int .i64 t35)) (fun _ hk=>hk.2) (.int .i64 t36)) (fun _ h_=>h_.1))) hb);replace HO32:=a0_ (Kd.R_below (by (with_reducible repeat (first | apply Kd.R_alloc | apply Kd.R_drewN | apply Kd.R_drew));exact (Kd.R_mono (Kd.R_far (p:=⟨gb38,2,none⟩) (Kd.R_far (p:=⟨gb38,1,none⟩) (Kd.R_far (p:=⟨gb38,0,none⟩) (Kd.R_types HO32.out BK38.out (by decide)) (fun _ hk=>hk.2) (.bool t34)) (fun _ hk=>hk.2) (.int .i64 t35)) (fun _ hk=>hk.2) (.int .i64 t36)) (fun _ h_=>h_.1))) hb);replace BK1:=a0_ (blk_below (g:=gb1) (o:=.cells #[.slice A0_0 l0_0.length c0_0] 24 (0,0)) (by (with_reducible repeat (first | refine blk_drewN ?_ _ | refine blk_drew ?_ | refine blk_alloc ?_ _));refine blk_far ?_ NB1_38.out _;(with_reducible repeat (first | refine blk_drewN ?_ _ | refine blk_drew ?_ | refine blk_alloc ?_ _));refine blk_far ?_ NB1_38.out _;(with_reducible repeat (first | refine blk_drewN ?_ _ | refine blk_drew ?_ | refine blk_alloc ?_ _));refine blk_far ?_ NB1_38.out _;(with_reducible repeat (first | refine blk_drewN ?_ _ | refine blk_drew ?_ | refine blk_alloc ?_ _));exact BK1.out) hb);replace BK2:=a0_ (blk_below (g:=gb2) (o:=.cells #[.slice A1_0 l1_0.length c1_0,.int .i64 a1_1,.int .i64 a1_2,.slice A1_3 l1_3.length c1_3] 60 (0,0)) (by (with_reducible repeat (first | refine blk_drewN ?_ _ | refine blk_drew ?_ | refine blk_alloc ?_ _));refine blk_far ?_ NB2_38.out _;(with_reducible repeat (first | refine blk_drewN ?_ _ | refine blk_drew ?_ | refine blk_alloc ?_ _));refine blk_far ?_ NB2_38.out _;(with_reducible repeat (first | refine blk_drewN ?_ _ | refine blk_drew ?_ | refine blk_alloc ?_ _));refine blk_far ?_ NB2_38.out _;(with_reducible repeat (first | refine blk_drewN ?_ _ | refine blk_drew ?_ | refine blk_alloc ?_ _));exact BK2.out) hb);replace BK20:=a0_ (blk_below (g:=gb20) (o:=.cells #[.bool t16,.int .i64 t17,.int .i64 t18] 63 (0,0)) (by (with_reducible repeat (first | refine blk_drewN ?_ _ | refine blk_drew ?_ | refine blk_alloc ?_ _));refine blk_far ?_ NB20_38.out _;(with_reducible repeat (first | refine blk_drewN ?_ _ | refine blk_drew ?_ | refine blk_alloc ?_ _));refine blk_far ?_ NB20_38.out _;(with_reducible repeat (first | refine blk_drewN ?_ _ | refine blk_drew ?_ | refine blk_alloc ?_ _));refine blk_far ?_ NB20_38.out _;(with_reducible repeat (first | refine blk_drewN ?_ _ | refine blk_drew ?_ | refine blk_alloc ?_ _));exact BK20.out) hb);replace BK24:=a0_ (blk_below (g:=gb24) (o:=.cells #[.slice Ao49 t21.length co49] 33 (0,0)) (by (with_reducible repeat (first | refine blk_drewN ?_ _ | refine blk_drew ?_ | refine blk_alloc ?_ _));refine blk_far ?_ NB24_38.out _;(with_reducible repeat (first | refine blk_drewN ?_ _ | refine blk_drew ?_ | refine blk_alloc ?_ _));refine blk_far ?_ NB24_38.out _;(with_reducible repeat (first | refine blk_drewN ?_ _ | refine blk_drew ?_ | refine blk_alloc ?_ _));refine blk_far ?_ NB24_38.out _;(with_reducible repeat (first | refine blk_drewN ?_ _ | refine blk_drew ?_ | refine blk_alloc ?_ _));exact BK24.out) hb);replace BK33:=a0_ (blk_below (g:=gb33) (o:=.cells #[.slice Ao58 t25.length co58,.int .i64 t28,.int .i64 t29,.slice Ao64 t30.length co64] 67 (0,0)) (by (with_reducible repeat (first | refine blk_drewN ?_ _ | refine blk_drew ?_ | refine blk_alloc ?_ _));refine blk_far ?_ NB33_38.out _;(with_reducible repeat (first | refine blk_drewN ?_ _ | refine blk_drew ?_ | refine blk_alloc ?_ _));refine blk_far ?_ NB33_38.out _;(with_reducible repeat (first | refine blk_drewN ?_ _ | refine blk_drew ?_ | refine blk_alloc ?_ _));refine blk_far ?_ NB33_38.out _;(with_reducible repeat (first | refine blk_drewN ?_ _ | refine blk_drew ?_ | refine blk_alloc ?_ _));exact BK33.out) hb);replace BK38:=a0_ (blk_below (g:=gb38) (o:=.cells #[.bool t34,.int .i64 t35,.int .i64 t36] 63 (0,0)) (by (with_reducible repeat (first | refine blk_drewN ?_ _ | refine blk_drew ?_ | refine blk_alloc ?_ _));refine blk_put (cs:=#[.bool t34,.int .i64 t35,.int .i64 0]) ?_ 2 _ rfl;(with_reducible repeat (first | refine blk_drewN ?_ _ | refine blk_drew ?_ | refine blk_alloc ?_ _));refine blk_put (cs:=#[.bool t34,.int .i64 0,.int .i64 0]) ?_ 1 _ rfl;(with_reducible repeat (first | refine blk_drewN ?_ _ | refine blk_drew ?_ | refine blk_alloc ?_ _));refine blk_put (cs:=#[.bool false,.int .i64 0,.int .i64 0]) ?_ 0 _ rfl;(with_reducible repeat (first | refine blk_drewN ?_ _ | refine blk_drew ?_ | refine blk_alloc ?_ _));exact BK38.out) hb);replace HB:=a0_ (below_step hb_ hb);(try clear hb);(try clear hb2);(try clear hk);(try clear hi)))
     go_meet
     case rel=>exact ⟨_,(true),(by first | rfl | (simp;done) | (simp [*];done)),H',⟨by first | omega | exact Nat.le_refl _⟩,⟨by (with_reducible repeat (first | apply Kd.R_alloc | apply Kd.R_drewN | apply Kd.R_drew));exact Kd.R_mono HO23.out (fun _ hk=>trivial)⟩,⟨by (with_reducible repeat (first | apply Kd.R_alloc | apply Kd.R_drewN | apply Kd.R_drew));exact Kd.R_mono HO27.out (fun _ hk=>trivial)⟩,⟨by (with_reducible repeat (first | apply Kd.R_alloc | apply Kd.R_drewN | apply Kd.R_drew));exact Kd.R_mono HO32.out (fun _ hk=>trivial)⟩,⟨by (with_reducible repeat (first | refine blk_drewN ?_ _ | refine blk_drew ?_ | refine blk_alloc ?_ _));exact BK1.out⟩,⟨by (with_reducible repeat (first | refine blk_drewN ?_ _ | refine blk_drew ?_ | refine blk_alloc ?_ _));exact BK2.out⟩,⟨by (with_reducible repeat (first | refine blk_drewN ?_ _ | refine blk_drew ?_ | refine blk_alloc ?_ _));exact BK20.out⟩,⟨by (with_reducible repeat (first | refine blk_drewN ?_ _ | refine blk_drew ?_ | refine blk_alloc ?_ _));exact BK24.out⟩,⟨by (with_reducible repeat (first | refine blk_drewN ?_ _ | refine blk_drew ?_ | refine blk_alloc ?_ _));exact BK33.out⟩,⟨by (with_reducible repeat (first | refine blk_drewN ?_ _ | refine blk_drew ?_ | refine blk_alloc ?_ _));exact BK38.out⟩,⟨hb_⟩⟩
   case rest =>
    clear HC25
    try clear c1
    try clear p2
    try clear c4
    try clear c5
    try clear c6
    try clear c7
    try clear c8
    try clear c9
    try clear c17
    try clear c45
    try clear c47
    try clear c48
    try clear c49
    try clear c50
    try clear c51
    try clear c52
    try clear c54
    try clear c59
    try clear c60
    try clear c61
    try clear c62
    try clear c68
    try clear c69
    try clear c70
    try clear c71
    try clear c72
    try clear c75
    try clear c76
    try clear c77
    try clear c78
    try clear c79
    try clear c80
    try clear c82
    try clear c83
    try clear c84
    try clear c85
    try clear c88
    try clear c89
    try clear c90
    try clear c91
    try clear c92
    try clear c94
    try clear c95
    try clear c96
    try clear c97
    try clear hcz46_0
    try clear hcz53_0
    try clear hcz55_0
    try clear hcz55_1
    try clear hcz55_2
    try clear hcz55_3
    try clear hcz63_0
    try clear hcz63_1
    try clear hcz63_2
    try clear hcz63_3
    try clear hcz65_0
    try clear hcz73_0
    try clear hcz73_1
    try clear hcz73_2
    try clear hcz81_0
    try clear hcz81_1
    try clear hcz81_2
    try clear hcz86_0
    try clear hcz86_1
    try clear hcz86_2
    try clear hcz93_0
    try clear hcz93_1
    try clear hcz93_2
    try clear hcz98_0
    try clear hcz98_1
    try clear hcz98_2
    try clear hfz46_0
    try clear hfz53_0
    try clear hfz55_0
    try clear hfz55_1
    try clear hfz55_2
    try clear hfz55_3
    try clear hfz63_0
    try clear hfz63_1
    try clear hfz63_2
    try clear hfz63_3
    try clear hfz65_0
    try clear hfz73_0
    try clear hfz73_1
    try clear hfz73_2
    try clear hfz81_0
    try clear hfz81_1
    try clear hfz81_2
    try clear hfz86_0
    try clear hfz86_1
    try clear hfz86_2
    try clear hfz93_0
    try clear hfz93_1
    try clear hfz93_2
    try clear hfz98_0
    try clear hfz98_1
    try clear hfz98_2
    obtain ⟨kq,x48_24,rfl,HA,HJ24,Z25,Z34,HO_34003,BK1,BK2,BK20,BK24,BK33,BK38,HB⟩:=hcut
    cases kq with
    | zero=>exact absurd HA.out (by simp [laws_FnExactStartOf.j0])
    | succ kj24 =>
     have H:=HA.out
     clear HA
     simp only [laws_FnExactStartOf.j0] at H
     by_cases c100 : x48_24 = true
     ·subst c100
      have H1 : (some false) = some r:=by rw [if_pos rfl] at H;exact H
      clear H
      have H:=H1
      clear H1
      obtain rfl:=Option.some.inj H
      go_wp2
      go_ret
      exact ⟨by first | rfl | (simp [errW_none,errW_some] <;> rfl) | (simp [*,errW_none,errW_some] <;> rfl),hb_⟩
     ·replace c100:=Bool.eq_false_iff.mpr c100
      subst c100
      have H1 : ((laws_toTree.f kj24 l0_0).bind fun t40=>((laws_eqTree.f kj24 t21 t40).bind fun t43=>(if t43 = true then ((laws_toResult.f kj24 l1_0 a1_1 a1_2 l1_3).bind fun bt44=>((laws_eqResult.f kj24 t25 t28 t29 t30 bt44.1 bt44.2.1 bt44.2.2.1 bt44.2.2.2).bind fun t52=>(if t52 = true then (some true) else (some false)))) else (some false)))) = some r:=by rw [if_neg (show ¬ (false = true) by decide)] at H;exact H
      clear H
      have H:=H1
      clear H1
      replace H:=Option.bind_eq_some_iff.mp H
      obtain ⟨t40,A1010,H⟩:=H
      replace H : ((laws_eqTree.f kj24 t21 t40).bind fun t43=>(if t43 = true then ((laws_toResult.f kj24 l1_0 a1_1 a1_2 l1_3).bind fun bt44=>((laws_eqResult.f kj24 t25 t28 t29 t30 bt44.1 bt44.2.1 bt44.2.2.1 bt44.2.2.2).bind fun t52=>(if t52 = true then (some true) else (some false)))) else (some false))) = some r:=H
      have A101:=a0_ A1010
      clear A1010
      replace H:=Option.bind_eq_some_iff.mp H
      obtain ⟨t43,A1020,H⟩:=H
      replace H : (if t43 = true then ((laws_toResult.f kj24 l1_0 a1_1 a1_2 l1_3).bind fun bt44=>((laws_eqResult.f kj24 t25 t28 t29 t30 bt44.1 bt44.2.1 bt44.2.2.1 bt44.2.2.2).bind fun t52=>(if t52 = true then (some true) else (some false)))) else (some false)) = some r:=H
      have A102:=a0_ A1020
      clear A1020
      by_cases c103 : t43 = true
      ·subst c103
       have H1 : ((laws_toResult.f kj24 l1_0 a1_1 a1_2 l1_3).bind fun bt44=>((laws_eqResult.f kj24 t25 t28 t29 t30 bt44.1 bt44.2.1 bt44.2.2.1 bt44.2.2.2).bind fun t52=>(if t52 = true then (some true) else (some false)))) = some r:=by rw [if_pos rfl] at H;exact H
       clear H
       have H:=H1
       clear H1
       replace H:=Option.bind_eq_some_iff.mp H
       obtain ⟨⟨t44,t47,t48,t49⟩,A1040,H⟩:=H
       replace H : ((laws_eqResult.f kj24 t25 t28 t29 t30 t44 t47 t48 t49).bind fun t52=>(if t52 = true then (some true) else (some false))) = some r:=H
       have A104:=a0_ A1040
       clear A1040
       replace H:=Option.bind_eq_some_iff.mp H
       obtain ⟨t52,A1050,H⟩:=H
       replace H : (if t52 = true then (some true) else (some false)) = some r:=H
       have A105:=a0_ A1050
       clear A1050
       by_cases c106 : t52 = true
       ·subst c106
        have H1 : (some true) = some r:=by rw [if_pos rfl] at H;exact H
        clear H
        have H:=H1
        clear H1
        obtain rfl:=Option.some.inj H
        try go_wp2
        have n0_:=a0_ (Kd.R_drew Z25.out)
        have n1_:=a0_ (Kd.R_drew Z34.out)
        have n2_:=a0_ (Kd.R_drew HO_34003.out)
        have n3_:=a0_ (blk_drew BK1.out)
        have n4_:=a0_ (blk_drew BK2.out)
        have n5_:=a0_ (blk_drew BK20.out)
        have n6_:=a0_ (blk_drew BK24.out)
        have n7_:=a0_ (blk_drew BK33.out)
        have n8_:=a0_ (blk_drew BK38.out)
        have n9_:=a0_ (below_drew1 HB.out)
        clear Z25
        clear Z34
        clear HO_34003
        clear BK1
        clear BK2
        clear BK20
        clear BK24
        clear BK33
        clear BK38
        clear HB
        have Z25:=n0_
        have Z34:=n1_
        have HO_34003:=n2_
        have BK1:=n3_
        have BK2:=n4_
        have BK20:=n5_
        have BK24:=n6_
        have BK33:=n7_
        have BK38:=n8_
        have HB:=n9_
        clear n0_ n1_ n2_ n3_ n4_ n5_ n6_ n7_ n8_ n9_
        refine start_ (n:=5) (S:=fun w'=>w'.cell? ⟨gb24,0,none⟩ = some (.slice Ao49 t21.length co49) ∧ w'.cell? ⟨gb1,0,none⟩ = some (.slice A0_0 l0_0.length c0_0)) (ds:=[]) #[false,false,false,false,false] (by kernel_rfl) rfl rfl ⟨(blk_cell BK24.out 0).trans rfl,(blk_cell BK1.out 0).trans rfl⟩ (fun hHeld=>?_)
        generalize wc.drew = w107 at Z25 Z34 HO_34003 BK1 BK2 BK20 BK24 BK33 BK38 HB hHeld ⊢
        refine take_ (i:=0) (N:=some 49) (v:=?_) (a':=?_) #[true,false,false,false,false] rfl rfl (by kernel_rfl) (fun _ _ _ h=>h) (Or.inl ⟨by rfl,?_⟩) hHeld ?_ ?_
        rotate_left
        ·rintro w' ⟨s0,s1⟩
         go_simp
         with_reducible rfl
        rotate_left
        ·simp only [Act.put,s1_,s2_,s3_,i64_w,i32_w]
         rfl
        refine take_ (i:=1) (N:=some 50) (v:=?_) (a':=?_) #[true,true,false,false,false] rfl rfl (by kernel_rfl) (fun _ _ _ h=>h) (Or.inl ⟨by rfl,?_⟩) hHeld ?_ ?_
        rotate_left
        ·rintro w' ⟨s0,s1⟩
         go_simp
         with_reducible rfl
        rotate_left
        ·simp only [Act.put,s1_,s2_,s3_,i64_w,i32_w]
         rfl
        refine one_ (i:=2) (N:=some 51) #[true,true,true,false,false] rfl rfl (by kernel_rfl) (by decide) (fun K hK=>?_)
        refine goes_ Try.func17 (by kernel_rfl) rfl #[.agg #[.slice A0_0 l0_0.length c0_0]] (by rfl) rfl rfl lm_ ?_
        with_reducible refine (laws_toTree.calls kj24 _ _ l0_0 t40 _ ?side1 ?side2 A101.out).mono ?_
        (case side1=>exact cc_ (Kd.C_below HR0_0.out HB.out))
        (case side2=>exact HC0_0.out)
        rintro e w108 ⟨v41,rfl,ho0,hb⟩
        refine ⟨_,rfl,?_⟩
        have n0_:=a0_ (Kd.R_elder' (rr_ Z25.out) (Kd.R_base ho0) hb)
        have n1_:=rb_ Z34 hb
        have n2_:=rb_ HO_34003 hb
        have n3_:=a0_ (Kd.R_lower (Kd.R_new' ho0 (Kd.R_lt (rr_ Z25.out))) (below_size hb_))
        have n4_:=kb_ BK1 hb
        have n5_:=kb_ BK2 hb
        have n6_:=kb_ BK20 hb
        have n7_:=kb_ BK24 hb
        have n8_:=kb_ BK33 hb
        have n9_:=kb_ BK38 hb
        have n10_:=a0_ (below_step hb_ hb)
        clear Z25
        clear Z34
        clear HO_34003
        clear BK1
        clear BK2
        clear BK20
        clear BK24
        clear BK33
        clear BK38
        clear HB
        have Z25:=n0_
        have Z34:=n1_
        have HO_34003:=n2_
        have HO42:=n3_
        have BK1:=n4_
        have BK2:=n5_
        have BK20:=n6_
        have BK24:=n7_
        have BK33:=n8_
        have BK38:=n9_
        have HB:=n10_
        clear n0_ n1_ n2_ n3_ n4_ n5_ n6_ n7_ n8_ n9_ n10_
        (try clear hb)
        (try clear hb2)
        (try clear hk)
        (try clear hi)
        (try clear ho0)
        obtain ⟨Ao109,co109,eo109⟩:=Kd.R_slice HO42.out
        (first | subst eo109 | (injection eo109 with f1_ f2_ f3_;have f4_:=f1_.symm;have f5_:=f3_.symm;clear f1_ f2_ f3_;subst f4_;subst f5_))
        refine hK.out _ _ ⟨(blk_cell BK24.out 0).trans rfl,(blk_cell BK1.out 0).trans rfl⟩ (fun hHeld=>?_)
        clear hK K
        refine norm_ (a':=?_) ?_ ?_
        rotate_left
        ·show Act.put _ (some 51) _ = _
         simp only [Act.put,s1_,s2_,s3_,i64_w,i32_w]
         rfl
        refine one_ (i:=3) (N:=some 52) #[true,true,true,true,false] rfl rfl (by kernel_rfl) (by decide) (fun K hK=>?_)
        refine goes_ Try.func20 (by kernel_rfl) rfl #[.agg #[.slice Ao49 t21.length co49],.agg #[.slice Ao109 t40.length co109]] (by rfl) rfl rfl lm_ ?_
        with_reducible refine (laws_eqTree.calls kj24 _ _ t21 _ _ t40 true _ ?side1 ?side2 ?side3 ?side4 A102.out).mono ?_
        (case side1=>exact cc_ (Kd.R_reads' Z25.out).2.2)
        (case side2=>exact (Kd.R_reads' Z25.out).2.1)
        (case side3=>exact cc_ (Kd.R_reads' HO42.out).2.2)
        (case side4=>exact (Kd.R_reads' HO42.out).2.1)
        rintro e w110 ⟨rfl,hb⟩
        refine ⟨_,rfl,?_⟩
        have n0_:=rb_ Z25 hb
        have n1_:=rb_ Z34 hb
        have n2_:=rb_ HO_34003 hb
        have n3_:=rb_ HO42 hb
        have n4_:=kb_ BK1 hb
        have n5_:=kb_ BK2 hb
        have n6_:=kb_ BK20 hb
        have n7_:=kb_ BK24 hb
        have n8_:=kb_ BK33 hb
        have n9_:=kb_ BK38 hb
        have n10_:=a0_ (below_step hb_ hb)
        clear Z25
        clear Z34
        clear HO_34003
        clear HO42
        clear BK1
        clear BK2
        clear BK20
        clear BK24
        clear BK33
        clear BK38
        clear HB
        have Z25:=n0_
        have Z34:=n1_
        have HO_34003:=n2_
        have HO42:=n3_
        have BK1:=n4_
        have BK2:=n5_
        have BK20:=n6_
        have BK24:=n7_
        have BK33:=n8_
        have BK38:=n9_
        have HB:=n10_
        clear n0_ n1_ n2_ n3_ n4_ n5_ n6_ n7_ n8_ n9_ n10_
        (try clear hb)
        (try clear hb2)
        (try clear hk)
        (try clear hi)
        refine hK.out _ _ ⟨(blk_cell BK24.out 0).trans rfl,(blk_cell BK1.out 0).trans rfl⟩ (fun hHeld=>?_)
        clear hK K
        refine norm_ (a':=?_) ?_ ?_
        rotate_left
        ·show Act.put _ (some 52) _ = _
         simp only [Act.put,s1_,s2_,s3_,i64_w,i32_w]
         rfl
        refine pure_ (i:=4) (N:=some 53) (v:=?_) (a':=?_) #[true,true,true,true,true] rfl rfl (by kernel_rfl) (fun _ _ _ h=>h) (Or.inl ⟨by rfl,?_⟩) ?_ ?_
        rotate_left
        ·intro w'
         go_simp
         with_reducible rfl
        rotate_left
        ·simp only [Act.put,s1_,s2_,s3_,i64_w,i32_w]
         rfl
        refine done_ (by kernel_rfl) ?_
        try go_wp2
        have n0_:=a0_ (Kd.R_drew Z25.out)
        have n1_:=a0_ (Kd.R_drew Z34.out)
        have n2_:=a0_ (Kd.R_drew HO_34003.out)
        have n3_:=a0_ (Kd.R_drew HO42.out)
        have n4_:=a0_ (blk_drew BK1.out)
        have n5_:=a0_ (blk_drew BK2.out)
        have n6_:=a0_ (blk_drew BK20.out)
        have n7_:=a0_ (blk_drew BK24.out)
        have n8_:=a0_ (blk_drew BK33.out)
        have n9_:=a0_ (blk_drew BK38.out)
        have n10_:=a0_ (below_drew1 HB.out)
        clear Z25
        clear Z34
        clear HO_34003
        clear HO42
        clear BK1
        clear BK2
        clear BK20
        clear BK24
        clear BK33
        clear BK38
        clear HB
        have Z25:=n0_
        have Z34:=n1_
        have HO_34003:=n2_
        have HO42:=n3_
        have BK1:=n4_
        have BK2:=n5_
        have BK20:=n6_
        have BK24:=n7_
        have BK33:=n8_
        have BK38:=n9_
        have HB:=n10_
        clear n0_ n1_ n2_ n3_ n4_ n5_ n6_ n7_ n8_ n9_ n10_
        refine start_ (n:=5) (S:=fun w'=>w'.cell? ⟨gb33,0,none⟩ = some (.slice Ao58 t25.length co58) ∧ w'.cell? ⟨gb33,1,none⟩ = some (.int .i64 t28) ∧ w'.cell? ⟨gb33,2,none⟩ = some (.int .i64 t29) ∧ w'.cell? ⟨gb33,3,none⟩ = some (.slice Ao64 t30.length co64) ∧ w'.cell? ⟨gb2,0,none⟩ = some (.slice A1_0 l1_0.length c1_0) ∧ w'.cell? ⟨gb2,1,none⟩ = some (.int .i64 a1_1) ∧ w'.cell? ⟨gb2,2,none⟩ = some (.int .i64 a1_2) ∧ w'.cell? ⟨gb2,3,none⟩ = some (.slice A1_3 l1_3.length c1_3)) (ds:=[]) #[false,false,false,false,false] (by kernel_rfl) rfl rfl ⟨(blk_cell BK33.out 0).trans rfl,(blk_cell BK33.out 1).trans rfl,(blk_cell BK33.out 2).trans rfl,(blk_cell BK33.out 3).trans rfl,(blk_cell BK2.out 0).trans rfl,(blk_cell BK2.out 1).trans rfl,(blk_cell BK2.out 2).trans rfl,(blk_cell BK2.out 3).trans rfl⟩ (fun hHeld=>?_)
        generalize w110.drew = w111 at Z25 Z34 HO_34003 HO42 BK1 BK2 BK20 BK24 BK33 BK38 HB hHeld ⊢
        refine take_ (i:=0) (N:=some 54) (v:=?_) (a':=?_) #[true,false,false,false,false] rfl rfl (by kernel_rfl) (fun _ _ _ h=>h) (Or.inl ⟨by rfl,?_⟩) hHeld ?_ ?_
        rotate_left
        ·rintro w' ⟨s0,s1,s2,s3,s4,s5,s6,s7⟩
         go_simp
         with_reducible rfl
        rotate_left
        ·simp only [Act.put,s1_,s2_,s3_,i64_w,i32_w]
         rfl
        refine take_ (i:=1) (N:=some 55) (v:=?_) (a':=?_) #[true,true,false,false,false] rfl rfl (by kernel_rfl) (fun _ _ _ h=>h) (Or.inl ⟨by rfl,?_⟩) hHeld ?_ ?_
        rotate_left
        ·rintro w' ⟨s0,s1,s2,s3,s4,s5,s6,s7⟩
         go_simp
         with_reducible rfl
        rotate_left
        ·simp only [Act.put,s1_,s2_,s3_,i64_w,i32_w]
         rfl
        refine one_ (i:=2) (N:=some 56) #[true,true,true,false,false] rfl rfl (by kernel_rfl) (by decide) (fun K hK=>?_)
        refine goes_ Try.func48 (by kernel_rfl) rfl #[.agg #[.slice A1_0 l1_0.length c1_0,.int .i64 a1_1,.int .i64 a1_2,.slice A1_3 l1_3.length c1_3]] (by rfl) rfl rfl lm_ ?_
        with_reducible refine (laws_toResult.calls kj24 _ _ l1_0 a1_1 a1_2 _ _ l1_3 t44 t47 t48 t49 _ ?side1 ?side2 ?side3 ?side4 A104.out).mono ?_
        (case side1=>exact cc_ (Kd.C_below HR1_0.out HB.out))
        (case side2=>exact HC1_0.out)
        (case side3=>exact cc_ (Kd.C_below HR1_3.out HB.out))
        (case side4=>exact HC1_3.out)
        rintro e w112 ⟨v45,v50,rfl,ho0,ho1,hb⟩
        refine ⟨_,rfl,?_⟩
        have n0_:=rb_ Z25 hb
        have n1_:=a0_ (Kd.R_elder' (rr_ Z34.out) (Kd.R_base ho0) hb)
        have n2_:=a0_ (Kd.R_elder' (rr_ HO_34003.out) (Kd.R_base ho1) hb)
        have n3_:=rb_ HO42 hb
        have n4_:=a0_ (Kd.R_lower (Kd.R_new' ho0 (Kd.R_lt (rr_ Z34.out))) (below_size hb_))
        have n5_:=a0_ (Kd.R_lower (Kd.R_new' ho1 (Kd.R_lt (rr_ HO_34003.out))) (below_size hb_))
        have n6_:=kb_ BK1 hb
        have n7_:=kb_ BK2 hb
        have n8_:=kb_ BK20 hb
        have n9_:=kb_ BK24 hb
        have n10_:=kb_ BK33 hb
        have n11_:=kb_ BK38 hb
        have n12_:=a0_ (below_step hb_ hb)
        clear Z25
        clear Z34
        clear HO_34003
        clear HO42
        clear BK1
        clear BK2
        clear BK20
        clear BK24
        clear BK33
        clear BK38
        clear HB
        have Z25:=n0_
        have Z34:=n1_
        have HO_34003:=n2_
        have HO42:=n3_
        have HO46:=n4_
        have HO51:=n5_
        have BK1:=n6_
        have BK2:=n7_
        have BK20:=n8_
        have BK24:=n9_
        have BK33:=n10_
        have BK38:=n11_
        have HB:=n12_
        clear n0_ n1_ n2_ n3_ n4_ n5_ n6_ n7_ n8_ n9_ n10_ n11_ n12_
        (try clear hb)
        (try clear hb2)
        (try clear hk)
        (try clear hi)
        (try clear ho0)
        (try clear ho1)
        obtain ⟨Ao113,co113,eo113⟩:=Kd.R_slice HO46.out
        (first | subst eo113 | (injection eo113 with f1_ f2_ f3_;have f4_:=f1_.symm;have f5_:=f3_.symm;clear f1_ f2_ f3_;subst f4_;subst f5_))
        obtain ⟨Ao114,co114,eo114⟩:=Kd.R_slice HO51.out
        (first | subst eo114 | (injection eo114 with f1_ f2_ f3_;have f4_:=f1_.symm;have f5_:=f3_.symm;clear f1_ f2_ f3_;subst f4_;subst f5_))
        refine hK.out _ _ ⟨(blk_cell BK33.out 0).trans rfl,(blk_cell BK33.out 1).trans rfl,(blk_cell BK33.out 2).trans rfl,(blk_cell BK33.out 3).trans rfl,(blk_cell BK2.out 0).trans rfl,(blk_cell BK2.out 1).trans rfl,(blk_cell BK2.out 2).trans rfl,(blk_cell BK2.out 3).trans rfl⟩ (fun hHeld=>?_)
        clear hK K
        refine norm_ (a':=?_) ?_ ?_
        rotate_left
        ·show Act.put _ (some 56) _ = _
         simp only [Act.put,s1_,s2_,s3_,i64_w,i32_w]
         rfl
        refine one_ (i:=3) (N:=some 57) #[true,true,true,true,false] rfl rfl (by kernel_rfl) (by decide) (fun K hK=>?_)
        refine goes_ Try.func51 (by kernel_rfl) rfl #[.agg #[.slice Ao58 t25.length co58,.int .i64 t28,.int .i64 t29,.slice Ao64 t30.length co64],.agg #[.slice Ao113 t44.length co113,.int .i64 t47,.int .i64 t48,.slice Ao114 t49.length co114]] (by rfl) rfl rfl lm_ ?_
        with_reducible refine (laws_eqResult.calls kj24 _ _ t25 t28 t29 _ _ t30 _ _ t44 t47 t48 _ _ t49 true _ ?side1 ?side2 ?side3 ?side4 ?side5 ?side6 ?side7 ?side8 A105.out).mono ?_
        (case side1=>exact cc_ (Kd.R_reads' Z34.out).2.2)
        (case side2=>exact (Kd.R_reads' Z34.out).2.1)
        (case side3=>exact cc_ (Kd.R_reads' HO_34003.out).2.2)
        (case side4=>exact (Kd.R_reads' HO_34003.out).2.1)
        (case side5=>exact cc_ (Kd.R_reads' HO46.out).2.2)
        (case side6=>exact (Kd.R_reads' HO46.out).2.1)
        (case side7=>exact cc_ (Kd.R_reads' HO51.out).2.2)
        (case side8=>exact (Kd.R_reads' HO51.out).2.1)
        rintro e w115 ⟨rfl,hb⟩
        refine ⟨_,rfl,?_⟩
        have n0_:=rb_ Z25 hb
        have n1_:=rb_ Z34 hb
        have n2_:=rb_ HO_34003 hb
        have n3_:=rb_ HO42 hb
        have n4_:=rb_ HO46 hb
        have n5_:=rb_ HO51 hb
        have n6_:=kb_ BK1 hb
        have n7_:=kb_ BK2 hb
        have n8_:=kb_ BK20 hb
        have n9_:=kb_ BK24 hb
        have n10_:=kb_ BK33 hb
        have n11_:=kb_ BK38 hb
        have n12_:=a0_ (below_step hb_ hb)
        clear Z25
        clear Z34
        clear HO_34003
        clear HO42
        clear HO46
        clear HO51
        clear BK1
        clear BK2
        clear BK20
        clear BK24
        clear BK33
        clear BK38
        clear HB
        have Z25:=n0_
        have Z34:=n1_
        have HO_34003:=n2_
        have HO42:=n3_
        have HO46:=n4_
        have HO51:=n5_
        have BK1:=n6_
        have BK2:=n7_
        have BK20:=n8_
        have BK24:=n9_
        have BK33:=n10_
        have BK38:=n11_
        have HB:=n12_
        clear n0_ n1_ n2_ n3_ n4_ n5_ n6_ n7_ n8_ n9_ n10_ n11_ n12_
        (try clear hb)
        (try clear hb2)
        (try clear hk)
        (try clear hi)
        refine hK.out _ _ ⟨(blk_cell BK33.out 0).trans rfl,(blk_cell BK33.out 1).trans rfl,(blk_cell BK33.out 2).trans rfl,(blk_cell BK33.out 3).trans rfl,(blk_cell BK2.out 0).trans rfl,(blk_cell BK2.out 1).trans rfl,(blk_cell BK2.out 2).trans rfl,(blk_cell BK2.out 3).trans rfl⟩ (fun hHeld=>?_)
        clear hK K
        refine norm_ (a':=?_) ?_ ?_
        rotate_left
        ·show Act.put _ (some 57) _ = _
         simp only [Act.put,s1_,s2_,s3_,i64_w,i32_w]
         rfl
        refine pure_ (i:=4) (N:=some 58) (v:=?_) (a':=?_) #[true,true,true,true,true] rfl rfl (by kernel_rfl) (fun _ _ _ h=>h) (Or.inl ⟨by rfl,?_⟩) ?_ ?_
        rotate_left
        ·intro w'
         go_simp
         with_reducible rfl
        rotate_left
        ·simp only [Act.put,s1_,s2_,s3_,i64_w,i32_w]
         rfl
        refine done_ (by kernel_rfl) ?_
        try go_wp2
        go_ret
        exact ⟨by first | rfl | (simp [errW_none,errW_some] <;> rfl) | (simp [*,errW_none,errW_some] <;> rfl),hb_⟩
       ·replace c106:=Bool.eq_false_iff.mpr c106
        subst c106
        have H1 : (some false) = some r:=by rw [if_neg (show ¬ (false = true) by decide)] at H;exact H
        clear H
        have H:=H1
        clear H1
        obtain rfl:=Option.some.inj H
        try go_wp2
        have n0_:=a0_ (Kd.R_drew Z25.out)
        have n1_:=a0_ (Kd.R_drew Z34.out)
        have n2_:=a0_ (Kd.R_drew HO_34003.out)
        have n3_:=a0_ (blk_drew BK1.out)
        have n4_:=a0_ (blk_drew BK2.out)
        have n5_:=a0_ (blk_drew BK20.out)
        have n6_:=a0_ (blk_drew BK24.out)
        have n7_:=a0_ (blk_drew BK33.out)
        have n8_:=a0_ (blk_drew BK38.out)
        have n9_:=a0_ (below_drew1 HB.out)
        clear Z25
        clear Z34
        clear HO_34003
        clear BK1
        clear BK2
        clear BK20
        clear BK24
        clear BK33
        clear BK38
        clear HB
        have Z25:=n0_
        have Z34:=n1_
        have HO_34003:=n2_
        have BK1:=n3_
        have BK2:=n4_
        have BK20:=n5_
        have BK24:=n6_
        have BK33:=n7_
        have BK38:=n8_
        have HB:=n9_
        clear n0_ n1_ n2_ n3_ n4_ n5_ n6_ n7_ n8_ n9_
        refine start_ (n:=5) (S:=fun w'=>w'.cell? ⟨gb24,0,none⟩ = some (.slice Ao49 t21.length co49) ∧ w'.cell? ⟨gb1,0,none⟩ = some (.slice A0_0 l0_0.length c0_0)) (ds:=[]) #[false,false,false,false,false] (by kernel_rfl) rfl rfl ⟨(blk_cell BK24.out 0).trans rfl,(blk_cell BK1.out 0).trans rfl⟩ (fun hHeld=>?_)
        generalize wc.drew = w116 at Z25 Z34 HO_34003 BK1 BK2 BK20 BK24 BK33 BK38 HB hHeld ⊢
        refine take_ (i:=0) (N:=some 49) (v:=?_) (a':=?_) #[true,false,false,false,false] rfl rfl (by kernel_rfl) (fun _ _ _ h=>h) (Or.inl ⟨by rfl,?_⟩) hHeld ?_ ?_
        rotate_left
        ·rintro w' ⟨s0,s1⟩
         go_simp
         with_reducible rfl
        rotate_left
        ·simp only [Act.put,s1_,s2_,s3_,i64_w,i32_w]
         rfl
        refine take_ (i:=1) (N:=some 50) (v:=?_) (a':=?_) #[true,true,false,false,false] rfl rfl (by kernel_rfl) (fun _ _ _ h=>h) (Or.inl ⟨by rfl,?_⟩) hHeld ?_ ?_
        rotate_left
        ·rintro w' ⟨s0,s1⟩
         go_simp
         with_reducible rfl
        rotate_left
        ·simp only [Act.put,s1_,s2_,s3_,i64_w,i32_w]
         rfl
        refine one_ (i:=2) (N:=some 51) #[true,true,true,false,false] rfl rfl (by kernel_rfl) (by decide) (fun K hK=>?_)
        refine goes_ Try.func17 (by kernel_rfl) rfl #[.agg #[.slice A0_0 l0_0.length c0_0]] (by rfl) rfl rfl lm_ ?_
        with_reducible refine (laws_toTree.calls kj24 _ _ l0_0 t40 _ ?side1 ?side2 A101.out).mono ?_
        (case side1=>exact cc_ (Kd.C_below HR0_0.out HB.out))
        (case side2=>exact HC0_0.out)
        rintro e w117 ⟨v41,rfl,ho0,hb⟩
        refine ⟨_,rfl,?_⟩
        have n0_:=a0_ (Kd.R_elder' (rr_ Z25.out) (Kd.R_base ho0) hb)
        have n1_:=rb_ Z34 hb
        have n2_:=rb_ HO_34003 hb
        have n3_:=a0_ (Kd.R_lower (Kd.R_new' ho0 (Kd.R_lt (rr_ Z25.out))) (below_size hb_))
        have n4_:=kb_ BK1 hb
        have n5_:=kb_ BK2 hb
        have n6_:=kb_ BK20 hb
        have n7_:=kb_ BK24 hb
        have n8_:=kb_ BK33 hb
        have n9_:=kb_ BK38 hb
        have n10_:=a0_ (below_step hb_ hb)
        clear Z25
        clear Z34
        clear HO_34003
        clear BK1
        clear BK2
        clear BK20
        clear BK24
        clear BK33
        clear BK38
        clear HB
        have Z25:=n0_
        have Z34:=n1_
        have HO_34003:=n2_
        have HO42:=n3_
        have BK1:=n4_
        have BK2:=n5_
        have BK20:=n6_
        have BK24:=n7_
        have BK33:=n8_
        have BK38:=n9_
        have HB:=n10_
        clear n0_ n1_ n2_ n3_ n4_ n5_ n6_ n7_ n8_ n9_ n10_
        (try clear hb)
        (try clear hb2)
        (try clear hk)
        (try clear hi)
        (try clear ho0)
        obtain ⟨Ao118,co118,eo118⟩:=Kd.R_slice HO42.out
        (first | subst eo118 | (injection eo118 with f1_ f2_ f3_;have f4_:=f1_.symm;have f5_:=f3_.symm;clear f1_ f2_ f3_;subst f4_;subst f5_))
        refine hK.out _ _ ⟨(blk_cell BK24.out 0).trans rfl,(blk_cell BK1.out 0).trans rfl⟩ (fun hHeld=>?_)
        clear hK K
        refine norm_ (a':=?_) ?_ ?_
        rotate_left
        ·show Act.put _ (some 51) _ = _
         simp only [Act.put,s1_,s2_,s3_,i64_w,i32_w]
         rfl
        refine one_ (i:=3) (N:=some 52) #[true,true,true,true,false] rfl rfl (by kernel_rfl) (by decide) (fun K hK=>?_)
        refine goes_ Try.func20 (by kernel_rfl) rfl #[.agg #[.slice Ao49 t21.length co49],.agg #[.slice Ao118 t40.length co118]] (by rfl) rfl rfl lm_ ?_
        with_reducible refine (laws_eqTree.calls kj24 _ _ t21 _ _ t40 true _ ?side1 ?side2 ?side3 ?side4 A102.out).mono ?_
        (case side1=>exact cc_ (Kd.R_reads' Z25.out).2.2)
        (case side2=>exact (Kd.R_reads' Z25.out).2.1)
        (case side3=>exact cc_ (Kd.R_reads' HO42.out).2.2)
        (case side4=>exact (Kd.R_reads' HO42.out).2.1)
        rintro e w119 ⟨rfl,hb⟩
        refine ⟨_,rfl,?_⟩
        have n0_:=rb_ Z25 hb
        have n1_:=rb_ Z34 hb
        have n2_:=rb_ HO_34003 hb
        have n3_:=rb_ HO42 hb
        have n4_:=kb_ BK1 hb
        have n5_:=kb_ BK2 hb
        have n6_:=kb_ BK20 hb
        have n7_:=kb_ BK24 hb
        have n8_:=kb_ BK33 hb
        have n9_:=kb_ BK38 hb
        have n10_:=a0_ (below_step hb_ hb)
        clear Z25
        clear Z34
        clear HO_34003
        clear HO42
        clear BK1
        clear BK2
        clear BK20
        clear BK24
        clear BK33
        clear BK38
        clear HB
        have Z25:=n0_
        have Z34:=n1_
        have HO_34003:=n2_
        have HO42:=n3_
        have BK1:=n4_
        have BK2:=n5_
        have BK20:=n6_
        have BK24:=n7_
        have BK33:=n8_
        have BK38:=n9_
        have HB:=n10_
        clear n0_ n1_ n2_ n3_ n4_ n5_ n6_ n7_ n8_ n9_ n10_
        (try clear hb)
        (try clear hb2)
        (try clear hk)
        (try clear hi)
        refine hK.out _ _ ⟨(blk_cell BK24.out 0).trans rfl,(blk_cell BK1.out 0).trans rfl⟩ (fun hHeld=>?_)
        clear hK K
        refine norm_ (a':=?_) ?_ ?_
        rotate_left
        ·show Act.put _ (some 52) _ = _
         simp only [Act.put,s1_,s2_,s3_,i64_w,i32_w]
         rfl
        refine pure_ (i:=4) (N:=some 53) (v:=?_) (a':=?_) #[true,true,true,true,true] rfl rfl (by kernel_rfl) (fun _ _ _ h=>h) (Or.inl ⟨by rfl,?_⟩) ?_ ?_
        rotate_left
        ·intro w'
         go_simp
         with_reducible rfl
        rotate_left
        ·simp only [Act.put,s1_,s2_,s3_,i64_w,i32_w]
         rfl
        refine done_ (by kernel_rfl) ?_
        try go_wp2
        have n0_:=a0_ (Kd.R_drew Z25.out)
        have n1_:=a0_ (Kd.R_drew Z34.out)
        have n2_:=a0_ (Kd.R_drew HO_34003.out)
        have n3_:=a0_ (Kd.R_drew HO42.out)
        have n4_:=a0_ (blk_drew BK1.out)
        have n5_:=a0_ (blk_drew BK2.out)
        have n6_:=a0_ (blk_drew BK20.out)
        have n7_:=a0_ (blk_drew BK24.out)
        have n8_:=a0_ (blk_drew BK33.out)
        have n9_:=a0_ (blk_drew BK38.out)
        have n10_:=a0_ (below_drew1 HB.out)
        clear Z25
        clear Z34
        clear HO_34003
        clear HO42
        clear BK1
        clear BK2
        clear BK20
        clear BK24
        clear BK33
        clear BK38
        clear HB
        have Z25:=n0_
        have Z34:=n1_
        have HO_34003:=n2_
        have HO42:=n3_
        have BK1:=n4_
        have BK2:=n5_
        have BK20:=n6_
        have BK24:=n7_
        have BK33:=n8_
        have BK38:=n9_
        have HB:=n10_
        clear n0_ n1_ n2_ n3_ n4_ n5_ n6_ n7_ n8_ n9_ n10_
        refine start_ (n:=5) (S:=fun w'=>w'.cell? ⟨gb33,0,none⟩ = some (.slice Ao58 t25.length co58) ∧ w'.cell? ⟨gb33,1,none⟩ = some (.int .i64 t28) ∧ w'.cell? ⟨gb33,2,none⟩ = some (.int .i64 t29) ∧ w'.cell? ⟨gb33,3,none⟩ = some (.slice Ao64 t30.length co64) ∧ w'.cell? ⟨gb2,0,none⟩ = some (.slice A1_0 l1_0.length c1_0) ∧ w'.cell? ⟨gb2,1,none⟩ = some (.int .i64 a1_1) ∧ w'.cell? ⟨gb2,2,none⟩ = some (.int .i64 a1_2) ∧ w'.cell? ⟨gb2,3,none⟩ = some (.slice A1_3 l1_3.length c1_3)) (ds:=[]) #[false,false,false,false,false] (by kernel_rfl) rfl rfl ⟨(blk_cell BK33.out 0).trans rfl,(blk_cell BK33.out 1).trans rfl,(blk_cell BK33.out 2).trans rfl,(blk_cell BK33.out 3).trans rfl,(blk_cell BK2.out 0).trans rfl,(blk_cell BK2.out 1).trans rfl,(blk_cell BK2.out 2).trans rfl,(blk_cell BK2.out 3).trans rfl⟩ (fun hHeld=>?_)
        generalize w119.drew = w120 at Z25 Z34 HO_34003 HO42 BK1 BK2 BK20 BK24 BK33 BK38 HB hHeld ⊢
        refine take_ (i:=0) (N:=some 54) (v:=?_) (a':=?_) #[true,false,false,false,false] rfl rfl (by kernel_rfl) (fun _ _ _ h=>h) (Or.inl ⟨by rfl,?_⟩) hHeld ?_ ?_
        rotate_left
        ·rintro w' ⟨s0,s1,s2,s3,s4,s5,s6,s7⟩
         go_simp
         with_reducible rfl
        rotate_left
        ·simp only [Act.put,s1_,s2_,s3_,i64_w,i32_w]
         rfl
        refine take_ (i:=1) (N:=some 55) (v:=?_) (a':=?_) #[true,true,false,false,false] rfl rfl (by kernel_rfl) (fun _ _ _ h=>h) (Or.inl ⟨by rfl,?_⟩) hHeld ?_ ?_
        rotate_left
        ·rintro w' ⟨s0,s1,s2,s3,s4,s5,s6,s7⟩
         go_simp
         with_reducible rfl
        rotate_left
        ·simp only [Act.put,s1_,s2_,s3_,i64_w,i32_w]
         rfl
        refine one_ (i:=2) (N:=some 56) #[true,true,true,false,false] rfl rfl (by kernel_rfl) (by decide) (fun K hK=>?_)
        refine goes_ Try.func48 (by kernel_rfl) rfl #[.agg #[.slice A1_0 l1_0.length c1_0,.int .i64 a1_1,.int .i64 a1_2,.slice A1_3 l1_3.length c1_3]] (by rfl) rfl rfl lm_ ?_
        with_reducible refine (laws_toResult.calls kj24 _ _ l1_0 a1_1 a1_2 _ _ l1_3 t44 t47 t48 t49 _ ?side1 ?side2 ?side3 ?side4 A104.out).mono ?_
        (case side1=>exact cc_ (Kd.C_below HR1_0.out HB.out))
        (case side2=>exact HC1_0.out)
        (case side3=>exact cc_ (Kd.C_below HR1_3.out HB.out))
        (case side4=>exact HC1_3.out)
        rintro e w121 ⟨v45,v50,rfl,ho0,ho1,hb⟩
        refine ⟨_,rfl,?_⟩
        have n0_:=rb_ Z25 hb
        have n1_:=a0_ (Kd.R_elder' (rr_ Z34.out) (Kd.R_base ho0) hb)
        have n2_:=a0_ (Kd.R_elder' (rr_ HO_34003.out) (Kd.R_base ho1) hb)
        have n3_:=rb_ HO42 hb
        have n4_:=a0_ (Kd.R_lower (Kd.R_new' ho0 (Kd.R_lt (rr_ Z34.out))) (below_size hb_))
        have n5_:=a0_ (Kd.R_lower (Kd.R_new' ho1 (Kd.R_lt (rr_ HO_34003.out))) (below_size hb_))
        have n6_:=kb_ BK1 hb
        have n7_:=kb_ BK2 hb
        have n8_:=kb_ BK20 hb
        have n9_:=kb_ BK24 hb
        have n10_:=kb_ BK33 hb
        have n11_:=kb_ BK38 hb
        have n12_:=a0_ (below_step hb_ hb)
        clear Z25
        clear Z34
        clear HO_34003
        clear HO42
        clear BK1
        clear BK2
        clear BK20
        clear BK24
        clear BK33
        clear BK38
        clear HB
        have Z25:=n0_
        have Z34:=n1_
        have HO_34003:=n2_
        have HO42:=n3_
        have HO46:=n4_
        have HO51:=n5_
        have BK1:=n6_
        have BK2:=n7_
        have BK20:=n8_
        have BK24:=n9_
        have BK33:=n10_
        have BK38:=n11_
        have HB:=n12_
        clear n0_ n1_ n2_ n3_ n4_ n5_ n6_ n7_ n8_ n9_ n10_ n11_ n12_
        (try clear hb)
        (try clear hb2)
        (try clear hk)
        (try clear hi)
        (try clear ho0)
        (try clear ho1)
        obtain ⟨Ao122,co122,eo122⟩:=Kd.R_slice HO46.out
        (first | subst eo122 | (injection eo122 with f1_ f2_ f3_;have f4_:=f1_.symm;have f5_:=f3_.symm;clear f1_ f2_ f3_;subst f4_;subst f5_))
        obtain ⟨Ao123,co123,eo123⟩:=Kd.R_slice HO51.out
        (first | subst eo123 | (injection eo123 with f1_ f2_ f3_;have f4_:=f1_.symm;have f5_:=f3_.symm;clear f1_ f2_ f3_;subst f4_;subst f5_))
        refine hK.out _ _ ⟨(blk_cell BK33.out 0).trans rfl,(blk_cell BK33.out 1).trans rfl,(blk_cell BK33.out 2).trans rfl,(blk_cell BK33.out 3).trans rfl,(blk_cell BK2.out 0).trans rfl,(blk_cell BK2.out 1).trans rfl,(blk_cell BK2.out 2).trans rfl,(blk_cell BK2.out 3).trans rfl⟩ (fun hHeld=>?_)
        clear hK K
        refine norm_ (a':=?_) ?_ ?_
        rotate_left
        ·show Act.put _ (some 56) _ = _
         simp only [Act.put,s1_,s2_,s3_,i64_w,i32_w]
         rfl
        refine one_ (i:=3) (N:=some 57) #[true,true,true,true,false] rfl rfl (by kernel_rfl) (by decide) (fun K hK=>?_)
        refine goes_ Try.func51 (by kernel_rfl) rfl #[.agg #[.slice Ao58 t25.length co58,.int .i64 t28,.int .i64 t29,.slice Ao64 t30.length co64],.agg #[.slice Ao122 t44.length co122,.int .i64 t47,.int .i64 t48,.slice Ao123 t49.length co123]] (by rfl) rfl rfl lm_ ?_
        with_reducible refine (laws_eqResult.calls kj24 _ _ t25 t28 t29 _ _ t30 _ _ t44 t47 t48 _ _ t49 false _ ?side1 ?side2 ?side3 ?side4 ?side5 ?side6 ?side7 ?side8 A105.out).mono ?_
        (case side1=>exact cc_ (Kd.R_reads' Z34.out).2.2)
        (case side2=>exact (Kd.R_reads' Z34.out).2.1)
        (case side3=>exact cc_ (Kd.R_reads' HO_34003.out).2.2)
        (case side4=>exact (Kd.R_reads' HO_34003.out).2.1)
        (case side5=>exact cc_ (Kd.R_reads' HO46.out).2.2)
        (case side6=>exact (Kd.R_reads' HO46.out).2.1)
        (case side7=>exact cc_ (Kd.R_reads' HO51.out).2.2)
        (case side8=>exact (Kd.R_reads' HO51.out).2.1)
        rintro e w124 ⟨rfl,hb⟩
        refine ⟨_,rfl,?_⟩
        have n0_:=rb_ Z25 hb
        have n1_:=rb_ Z34 hb
        have n2_:=rb_ HO_34003 hb
        have n3_:=rb_ HO42 hb
        have n4_:=rb_ HO46 hb
        have n5_:=rb_ HO51 hb
        have n6_:=kb_ BK1 hb
        have n7_:=kb_ BK2 hb
        have n8_:=kb_ BK20 hb
        have n9_:=kb_ BK24 hb
        have n10_:=kb_ BK33 hb
        have n11_:=kb_ BK38 hb
        have n12_:=a0_ (below_step hb_ hb)
        clear Z25
        clear Z34
        clear HO_34003
        clear HO42
        clear HO46
        clear HO51
        clear BK1
        clear BK2
        clear BK20
        clear BK24
        clear BK33
        clear BK38
        clear HB
        have Z25:=n0_
        have Z34:=n1_
        have HO_34003:=n2_
        have HO42:=n3_
        have HO46:=n4_
        have HO51:=n5_
        have BK1:=n6_
        have BK2:=n7_
        have BK20:=n8_
        have BK24:=n9_
        have BK33:=n10_
        have BK38:=n11_
        have HB:=n12_
        clear n0_ n1_ n2_ n3_ n4_ n5_ n6_ n7_ n8_ n9_ n10_ n11_ n12_
        (try clear hb)
        (try clear hb2)
        (try clear hk)
        (try clear hi)
        refine hK.out _ _ ⟨(blk_cell BK33.out 0).trans rfl,(blk_cell BK33.out 1).trans rfl,(blk_cell BK33.out 2).trans rfl,(blk_cell BK33.out 3).trans rfl,(blk_cell BK2.out 0).trans rfl,(blk_cell BK2.out 1).trans rfl,(blk_cell BK2.out 2).trans rfl,(blk_cell BK2.out 3).trans rfl⟩ (fun hHeld=>?_)
        clear hK K
        refine norm_ (a':=?_) ?_ ?_
        rotate_left
        ·show Act.put _ (some 57) _ = _
         simp only [Act.put,s1_,s2_,s3_,i64_w,i32_w]
         rfl
        refine pure_ (i:=4) (N:=some 58) (v:=?_) (a':=?_) #[true,true,true,true,true] rfl rfl (by kernel_rfl) (fun _ _ _ h=>h) (Or.inl ⟨by rfl,?_⟩) ?_ ?_
        rotate_left
        ·intro w'
         go_simp
         with_reducible rfl
        rotate_left
        ·simp only [Act.put,s1_,s2_,s3_,i64_w,i32_w]
         rfl
        refine done_ (by kernel_rfl) ?_
        try go_wp2
        go_ret
        exact ⟨by first | rfl | (simp [errW_none,errW_some] <;> rfl) | (simp [*,errW_none,errW_some] <;> rfl),hb_⟩
      ·replace c103:=Bool.eq_false_iff.mpr c103
       subst c103
       have H1 : (some false) = some r:=by rw [if_neg (show ¬ (false = true) by decide)] at H;exact H
       clear H
       have H:=H1
       clear H1
       obtain rfl:=Option.some.inj H
       try go_wp2
       have n0_:=a0_ (Kd.R_drew Z25.out)
       have n1_:=a0_ (Kd.R_drew Z34.out)
       have n2_:=a0_ (Kd.R_drew HO_34003.out)
       have n3_:=a0_ (blk_drew BK1.out)
       have n4_:=a0_ (blk_drew BK2.out)
       have n5_:=a0_ (blk_drew BK20.out)
       have n6_:=a0_ (blk_drew BK24.out)
       have n7_:=a0_ (blk_drew BK33.out)
       have n8_:=a0_ (blk_drew BK38.out)
       have n9_:=a0_ (below_drew1 HB.out)
       clear Z25
       clear Z34
       clear HO_34003
       clear BK1
       clear BK2
       clear BK20
       clear BK24
       clear BK33
       clear BK38
       clear HB
       have Z25:=n0_
       have Z34:=n1_
       have HO_34003:=n2_
       have BK1:=n3_
       have BK2:=n4_
       have BK20:=n5_
       have BK24:=n6_
       have BK33:=n7_
       have BK38:=n8_
       have HB:=n9_
       clear n0_ n1_ n2_ n3_ n4_ n5_ n6_ n7_ n8_ n9_
       refine start_ (n:=5) (S:=fun w'=>w'.cell? ⟨gb24,0,none⟩ = some (.slice Ao49 t21.length co49) ∧ w'.cell? ⟨gb1,0,none⟩ = some (.slice A0_0 l0_0.length c0_0)) (ds:=[]) #[false,false,false,false,false] (by kernel_rfl) rfl rfl ⟨(blk_cell BK24.out 0).trans rfl,(blk_cell BK1.out 0).trans rfl⟩ (fun hHeld=>?_)
       generalize wc.drew = w125 at Z25 Z34 HO_34003 BK1 BK2 BK20 BK24 BK33 BK38 HB hHeld ⊢
       refine take_ (i:=0) (N:=some 49) (v:=?_) (a':=?_) #[true,false,false,false,false] rfl rfl (by kernel_rfl) (fun _ _ _ h=>h) (Or.inl ⟨by rfl,?_⟩) hHeld ?_ ?_
       rotate_left
       ·rintro w' ⟨s0,s1⟩
        go_simp
        with_reducible rfl
       rotate_left
       ·simp only [Act.put,s1_,s2_,s3_,i64_w,i32_w]
        rfl
       refine take_ (i:=1) (N:=some 50) (v:=?_) (a':=?_) #[true,true,false,false,false] rfl rfl (by kernel_rfl) (fun _ _ _ h=>h) (Or.inl ⟨by rfl,?_⟩) hHeld ?_ ?_
       rotate_left
       ·rintro w' ⟨s0,s1⟩
        go_simp
        with_reducible rfl
       rotate_left
       ·simp only [Act.put,s1_,s2_,s3_,i64_w,i32_w]
        rfl
       refine one_ (i:=2) (N:=some 51) #[true,true,true,false,false] rfl rfl (by kernel_rfl) (by decide) (fun K hK=>?_)
       refine goes_ Try.func17 (by kernel_rfl) rfl #[.agg #[.slice A0_0 l0_0.length c0_0]] (by rfl) rfl rfl lm_ ?_
       with_reducible refine (laws_toTree.calls kj24 _ _ l0_0 t40 _ ?side1 ?side2 A101.out).mono ?_
       (case side1=>exact cc_ (Kd.C_below HR0_0.out HB.out))
       (case side2=>exact HC0_0.out)
       rintro e w126 ⟨v41,rfl,ho0,hb⟩
       refine ⟨_,rfl,?_⟩
       have n0_:=a0_ (Kd.R_elder' (rr_ Z25.out) (Kd.R_base ho0) hb)
       have n1_:=rb_ Z34 hb
       have n2_:=rb_ HO_34003 hb
       have n3_:=a0_ (Kd.R_lower (Kd.R_new' ho0 (Kd.R_lt (rr_ Z25.out))) (below_size hb_))
       have n4_:=kb_ BK1 hb
       have n5_:=kb_ BK2 hb
       have n6_:=kb_ BK20 hb
       have n7_:=kb_ BK24 hb
       have n8_:=kb_ BK33 hb
       have n9_:=kb_ BK38 hb
       have n10_:=a0_ (below_step hb_ hb)
       clear Z25
       clear Z34
       clear HO_34003
       clear BK1
       clear BK2
       clear BK20
       clear BK24
       clear BK33
       clear BK38
       clear HB
       have Z25:=n0_
       have Z34:=n1_
       have HO_34003:=n2_
       have HO42:=n3_
       have BK1:=n4_
       have BK2:=n5_
       have BK20:=n6_
       have BK24:=n7_
       have BK33:=n8_
       have BK38:=n9_
       have HB:=n10_
       clear n0_ n1_ n2_ n3_ n4_ n5_ n6_ n7_ n8_ n9_ n10_
       (try clear hb)
       (try clear hb2)
       (try clear hk)
       (try clear hi)
       (try clear ho0)
       obtain ⟨Ao127,co127,eo127⟩:=Kd.R_slice HO42.out
       (first | subst eo127 | (injection eo127 with f1_ f2_ f3_;have f4_:=f1_.symm;have f5_:=f3_.symm;clear f1_ f2_ f3_;subst f4_;subst f5_))
       refine hK.out _ _ ⟨(blk_cell BK24.out 0).trans rfl,(blk_cell BK1.out 0).trans rfl⟩ (fun hHeld=>?_)
       clear hK K
       refine norm_ (a':=?_) ?_ ?_
       rotate_left
       ·show Act.put _ (some 51) _ = _
        simp only [Act.put,s1_,s2_,s3_,i64_w,i32_w]
        rfl
       refine one_ (i:=3) (N:=some 52) #[true,true,true,true,false] rfl rfl (by kernel_rfl) (by decide) (fun K hK=>?_)
       refine goes_ Try.func20 (by kernel_rfl) rfl #[.agg #[.slice Ao49 t21.length co49],.agg #[.slice Ao127 t40.length co127]] (by rfl) rfl rfl lm_ ?_
       with_reducible refine (laws_eqTree.calls kj24 _ _ t21 _ _ t40 false _ ?side1 ?side2 ?side3 ?side4 A102.out).mono ?_
       (case side1=>exact cc_ (Kd.R_reads' Z25.out).2.2)
       (case side2=>exact (Kd.R_reads' Z25.out).2.1)
       (case side3=>exact cc_ (Kd.R_reads' HO42.out).2.2)
       (case side4=>exact (Kd.R_reads' HO42.out).2.1)
       rintro e w128 ⟨rfl,hb⟩
       refine ⟨_,rfl,?_⟩
       have n0_:=rb_ Z25 hb
       have n1_:=rb_ Z34 hb
       have n2_:=rb_ HO_34003 hb
       have n3_:=rb_ HO42 hb
       have n4_:=kb_ BK1 hb
       have n5_:=kb_ BK2 hb
       have n6_:=kb_ BK20 hb
       have n7_:=kb_ BK24 hb
       have n8_:=kb_ BK33 hb
       have n9_:=kb_ BK38 hb
       have n10_:=a0_ (below_step hb_ hb)
       clear Z25
       clear Z34
       clear HO_34003
       clear HO42
       clear BK1
       clear BK2
       clear BK20
       clear BK24
       clear BK33
       clear BK38
       clear HB
       have Z25:=n0_
       have Z34:=n1_
       have HO_34003:=n2_
       have HO42:=n3_
       have BK1:=n4_
       have BK2:=n5_
       have BK20:=n6_
       have BK24:=n7_
       have BK33:=n8_
       have BK38:=n9_
       have HB:=n10_
       clear n0_ n1_ n2_ n3_ n4_ n5_ n6_ n7_ n8_ n9_ n10_
       (try clear hb)
       (try clear hb2)
       (try clear hk)
       (try clear hi)
       refine hK.out _ _ ⟨(blk_cell BK24.out 0).trans rfl,(blk_cell BK1.out 0).trans rfl⟩ (fun hHeld=>?_)
       clear hK K
       refine norm_ (a':=?_) ?_ ?_
       rotate_left
       ·show Act.put _ (some 52) _ = _
        simp only [Act.put,s1_,s2_,s3_,i64_w,i32_w]
        rfl
       refine pure_ (i:=4) (N:=some 53) (v:=?_) (a':=?_) #[true,true,true,true,true] rfl rfl (by kernel_rfl) (fun _ _ _ h=>h) (Or.inl ⟨by rfl,?_⟩) ?_ ?_
       rotate_left
       ·intro w'
        go_simp
        with_reducible rfl
       rotate_left
       ·simp only [Act.put,s1_,s2_,s3_,i64_w,i32_w]
        rfl
       refine done_ (by kernel_rfl) ?_
       try go_wp2
       go_ret
       exact ⟨by first | rfl | (simp [errW_none,errW_some] <;> rfl) | (simp [*,errW_none,errW_some] <;> rfl),hb_⟩
end Go.Proofs.Ytfhcfhffmblacaa.P
namespace Go.Proofs.Ytfhcfhffmblacaa.Pure
open Go.RowKit Go.Proofs.Ytfhcfhffmblacaa.P
set_option linter.unusedVariables false
theorem FnExactStartOf (l0_0 : List S103) (l1_0 : List (Int)) (a1_1 : Int) (a1_2 : Int) (l1_3_0 : List S109) (G0_0 : (l0_0.length ≤ maxLen ∧ ∀ x ∈ l0_0,(x.f0.size ≤ maxLen ∧ (Lit.int .i64 x.f1).wf = true))) (G1_0 : (l1_0.length ≤ maxLen ∧ ∀ x ∈ l1_0,(Lit.int .i64 x).wf = true)) (G1_1 : (Lit.int .i64 a1_1).wf = true) (G1_2 : (Lit.int .i64 a1_2).wf = true) (G1_3_0 : (l1_3_0.length ≤ maxLen ∧ ∀ x ∈ l1_3_0,((Lit.int .i64 x.f0).wf = true ∧ (Lit.int .i64 x.f1).wf = true ∧ (Lit.int .i64 x.f2).wf = true ∧ (Lit.int .i64 x.f3).wf = true ∧ True))) : ∃ k,laws_FnExactStartOf.f k l0_0 l1_0 a1_1 a1_2 l1_3_0 = some true:=by
 have hmax : maxLen = 9223372036854775807:=by decide
 rw [hmax] at G0_0 G1_0 G1_3_0
 refine Ev.out (F:=fun k=>laws_FnExactStartOf.f k l0_0 l1_0 a1_1 a1_2 l1_3_0) ?_
 unfold laws_FnExactStartOf.f
 obtain ⟨v0,hv0,hg0⟩:=laws_szTree_ev l0_0 1048576 (by omega) (by omega) G0_0.1 (fun x hx=>(G0_0.2 x hx).1)
 refine Ev.bind hv0 ?_
 by_cases hn0 : v0 < 0
 ·exact Ev.pos hn0 (Ev.const rfl)
 refine Ev.neg hn0 ?_
 obtain ⟨hva0,hl0,hs⟩:=hg0 (by omega)
 obtain ⟨v1,hv1,hg1⟩:=laws_szResult_ev l1_0 a1_1 a1_2 l1_3_0 v0 (by omega) (by omega) G1_0.1 G1_3_0.1
 refine Ev.bind hv1 ?_
 by_cases hn1 : v1 < 0
 ·exact Ev.pos hn1 (Ev.const rfl)
 refine Ev.neg hn1 ?_
 obtain ⟨hva1,hl1,hl2⟩:=hg1 (by omega)
 have hT0:=laws_toTree_ev l0_0 (by omega)
 have hm0 : (l0_0.map toC).length ≤ 1048576:=by rw [List.length_map];omega
 have hT1:=laws_toResult_ev l1_0 a1_1 a1_2 l1_3_0 (by omega) (by omega)
 have hm1 : (l1_3_0.map toFault).length ≤ 1048576:=by rw [List.length_map];omega
 have hsm:=smT_of hs
 have hS:=spec_StartOf_ev (l0_0.map toC) l1_0 a1_1 a1_2 (l1_3_0.map toFault) hsm (by omega) (by omega)
 have hG : Ev (fun _=>impl_StartOf.f (l0_0.map toC) l1_0 a1_1 a1_2 (l1_3_0.map toFault)) (staP (l0_0.map toC) a1_1 a1_2 (l1_3_0.map toFault)):=Ev.const (impl_StartOf_ev (l0_0.map toC) l1_0 a1_1 a1_2 (l1_3_0.map toFault) hsm (by omega))
 generalize staP (l0_0.map toC) a1_1 a1_2 (l1_3_0.map toFault) = r at hS hG
 obtain ⟨r0,r1,r2,r3⟩:=r
 have hE : Ev (fun _=>laws_eqStart.f r0 r1 r2 r0 r1 r2) true:=Ev.const (by simp [laws_eqStart.f])
 refine Ev.bind hT0 (Ev.bind hT1 (Ev.bind hS (Ev.bind hT0 (Ev.bind hT1 (Ev.bind hG (Ev.bind hE (Ev.pos rfl ?_)))))))
 refine Ev.succ ?_
 simp only [laws_FnExactStartOf.j0]
 exact Ev.neg (by simp) (Ev.bind hT0 (Ev.bind (laws_eqTree_ev _ (by omega)) (Ev.pos rfl (Ev.bind hT1 (Ev.bind (laws_eqResult_ev _ _ _ _ (by omega) (by omega)) (Ev.pos rfl (Ev.const rfl)))))))
end Go.Proofs.Ytfhcfhffmblacaa.Pure
