/- Texts under the proof of FnExactLookUp: helper words, the functions' contracts and the plain laws. No condition. -/
import Derived.Test.YtacgehaipacehaaQFnExactLookUpa
import Derived.Test.YtacgehaipacehaaQFnExactLookUpb
namespace Go.Proofs.Ytacgehaipacehaa.P
open Go.RowKit Go.Proofs.YtacgehaipacehaaW.PrintWords Go.Proofs.YtacgehaipacehaaW.PrintLast Go.Proofs.YtacgehaipacehaaW.PrintMore
attribute [local go_sem] max2_int min2_int max_two min_two max_three min_three max_four min_four
set_option linter.unusedVariables false
set_option linter.unusedSimpArgs false
def laws_FnExactLookUp.f (k : Nat) (l0_0 : List (S153)) (l1 : List (S99)) (a2 : Int) (a3 : Int) : Option (Bool):=(laws_szTree.f k l0_0 1048576).bind fun t2=>(if t2 < 0 then (some true) else ((laws_szRangeS.f l1 t2).bind fun t3=>(if t3 < 0 then (some true) else ((laws_toTree.f k l0_0).bind fun t4=>((laws_toRangeS.f k l1).bind fun t7=>((spec_LookUp.f k t4 t7 a2 a3).bind fun t10=>((laws_toTree.f k l0_0).bind fun t11=>((laws_toRangeS.f k l1).bind fun t15=>((impl_LookUp.f t11 t15 a2 a3).bind fun t18=>(if t18 = t10 then ((laws_toTree.f k l0_0).bind fun t19=>((laws_eqTree.f k t11 t19).bind fun t22=>(if t22 = true then ((laws_toRangeS.f k l1).bind fun t23=>((laws_eqRangeS.f k t15 t23).bind fun t26=>(if t26 = true then (some true) else (some false)))) else (some false)))) else (some false)))))))))))
theorem laws_FnExactLookUp.mono : ∀ a0 a1 a2 a3 k,LeO (laws_FnExactLookUp.f k a0 a1 a2 a3) (laws_FnExactLookUp.f (k + 1) a0 a1 a2 a3):=by
 intro a0 a1 a2 a3 k
 unfold laws_FnExactLookUp.f
 repeat' first
   | (with_reducible exact laws_eqRangeS.mono _ _ _)
   | (with_reducible exact laws_eqTree.mono _ _ _)
   | (with_reducible exact laws_szTree.mono _ _ _)
   | (with_reducible exact laws_toRangeS.mono _ _)
   | (with_reducible exact laws_toTree.mono _ _)
   | (with_reducible exact spec_LookUp.mono _ _ _ _ _)
   | (with_reducible exact LeO.refl _)
   | (with_reducible exact LeO.none _)
   | (with_reducible refine LeO.ite ?_ ?_)
   | (with_reducible refine LeO.bind ?_ (fun _=>?_))
   | exact laws_eqRangeS.mono _ _ _
   | exact laws_eqTree.mono _ _ _
   | exact laws_szTree.mono _ _ _
   | exact laws_toRangeS.mono _ _
   | exact laws_toTree.mono _ _
   | exact spec_LookUp.mono _ _ _ _ _
   | exact LeO.none _
   | refine LeO.ite ?_ ?_
   | refine LeO.bind ?_ (fun _=>?_)
set_option maxHeartbeats 8000000 in
set_option maxRecDepth 100000 in
theorem laws_FnExactLookUp.calls (k : Nat) (A0_0 : Option Addr) (c0_0 : Nat) (l0_0 : List (S153)) (A1 : Option Addr) (c1 : Nat) (l1 : List (S99)) (a2 : Int) (a3 : Int) (r : Bool) (w : World) (hr0_0 : Kd.C k153 w A0_0 l0_0.length l0_0) (hc0_0 : l0_0.length ≤ c0_0) (hr1 : Kd.C k99 w A1 l1.length l1) (hc1 : l1.length ≤ c1) (h : laws_FnExactLookUp.f k l0_0 l1 a2 a3 = some r) :
  Calls Try.prog 4 #[.agg #[.slice A0_0 l0_0.length c0_0],.slice A1 l1.length c1,.int .i64 a2,.int .i64 a3] w fun e w'=>e = .returned (.bool r) ∧ Below w.heap.size w w':=by
 have hu38:=Try.underlying38
 have hu25:=Try.underlying25
 have HR0_0:=a0_ hr0_0
 have HC0_0:=a0_ hc0_0
 clear hr0_0 hc0_0
 have HR1:=a0_ hr1
 have HC1:=a0_ hc1
 clear hr1 hc1
 have HB:=a0_ (Below.refl w.heap.size w)
 have H : ((laws_szTree.f k l0_0 1048576).bind fun t2=>(if t2 < 0 then (some true) else ((laws_szRangeS.f l1 t2).bind fun t3=>(if t3 < 0 then (some true) else ((laws_toTree.f k l0_0).bind fun t4=>((laws_toRangeS.f k l1).bind fun t7=>((spec_LookUp.f k t4 t7 a2 a3).bind fun t10=>((laws_toTree.f k l0_0).bind fun t11=>((laws_toRangeS.f k l1).bind fun t15=>((impl_LookUp.f t11 t15 a2 a3).bind fun t18=>(if t18 = t10 then ((laws_toTree.f k l0_0).bind fun t19=>((laws_eqTree.f k t11 t19).bind fun t22=>(if t22 = true then ((laws_toRangeS.f k l1).bind fun t23=>((laws_eqRangeS.f k t15 t23).bind fun t26=>(if t26 = true then (some true) else (some false)))) else (some false)))) else (some false)))))))))))) = some r:=h
 clear h
 replace H:=Option.bind_eq_some_iff.mp H
 obtain ⟨t2,A50,H⟩:=H
 try dsimp only at H
 have A5:=a0_ A50
 clear A50
 by_cases c6 : t2 < 0
 ·rw [if_pos c6] at H
  have c6b0 : decide (t2 < 0) = true:=decide_eq_true c6
  clear c6
  obtain rfl:=Option.some.inj H
  go_enter Try.func4,Try.ntmps4
  go_wp2_with (first | ((with_reducible refine gate_dst (N:=4) rfl ?_);refine box_event ?hg (N:=4) ?hd (cs:=#[.slice A0_0 l0_0.length c0_0]) (t:=38) ?hr ?_;(case hd=>rfl);(case hg=>rfl);(case hr=>first | (go_simp;done) | (go_simp;rfl));intro gb1 hg w7 hbox hb;have BK1:=a0_ (hbox);have GW1:=a0_ ((by rw [hg];exact (below_size hbw_) : w.heap.size ≤ gb1));have GE1:=a0_ ((by rw [hg];exact (below_size hbw_) : w.heap.size ≤ gb1));replace HB:=a0_ (below_step hbw_ hb);clear hb hbox hg;have hcz8_0 : w7.cell? ⟨gb1,0,none⟩ = some (.slice A0_0 l0_0.length c0_0):=(blk_cell BK1.out 0).trans rfl;have hfz8_0:=blk_frozen BK1.out 0) | ((with_reducible refine gate_callee (f:=21) rfl ?_);refine goesL_ (some 16) rfl rfl Try.func21 (by kernel_rfl) rfl #[.agg #[.slice A0_0 l0_0.length c0_0],.int .i64 1048576] rfl lm_ ?_;(with_reducible refine (laws_szTree.calls k _ _ l0_0 1048576 t2 _ ?side1 ?side2 A5.out).mono ?_);(case side1=>exact cc_ (Kd.C_below HR0_0.out HB.out));(case side2=>exact HC0_0.out);rintro e w9 ⟨rfl,hb⟩;refine ⟨_,rfl,?_⟩;replace BK1:=kb_ BK1 hb;replace HB:=a0_ (below_step hbw_ hb);(try clear hb);(try clear hb2);(try clear hk);(try clear hi)))
  go_ret
  exact ⟨by first | rfl | (simp [errW_none,errW_some] <;> rfl) | (simp [*,errW_none,errW_some] <;> rfl),hbw_⟩
 ·rw [if_neg c6] at H
  have c6b0 : decide (t2 < 0) = false:=decide_eq_false c6
  clear c6
  replace H:=Option.bind_eq_some_iff.mp H
  obtain ⟨t3,A100,H⟩:=H
  try dsimp only at H
  have A10:=a0_ A100
  clear A100
  by_cases c11 : t3 < 0
  ·rw [if_pos c11] at H
   have c11b0 : decide (t3 < 0) = true:=decide_eq_true c11
   clear c11
   obtain rfl:=Option.some.inj H
   go_enter Try.func4,Try.ntmps4
   go_wp2_with (first | ((with_reducible refine gate_dst (N:=4) rfl ?_);refine box_event ?hg (N:=4) ?hd (cs:=#[.slice A0_0 l0_0.length c0_0]) (t:=38) ?hr ?_;(case hd=>rfl);(case hg=>rfl);(case hr=>first | (go_simp;done) | (go_simp;rfl));intro gb1 hg w12 hbox hb;have BK1:=a0_ (hbox);have GW1:=a0_ ((by rw [hg];exact (below_size hbw_) : w.heap.size ≤ gb1));have GE1:=a0_ ((by rw [hg];exact (below_size hbw_) : w.heap.size ≤ gb1));replace HB:=a0_ (below_step hbw_ hb);clear hb hbox hg;have hcz13_0 : w12.cell? ⟨gb1,0,none⟩ = some (.slice A0_0 l0_0.length c0_0):=(blk_cell BK1.out 0).trans rfl;have hfz13_0:=blk_frozen BK1.out 0) | ((with_reducible refine gate_callee (f:=21) rfl ?_);refine goesL_ (some 16) rfl rfl Try.func21 (by kernel_rfl) rfl #[.agg #[.slice A0_0 l0_0.length c0_0],.int .i64 1048576] rfl lm_ ?_;(with_reducible refine (laws_szTree.calls k _ _ l0_0 1048576 t2 _ ?side1 ?side2 A5.out).mono ?_);(case side1=>exact cc_ (Kd.C_below HR0_0.out HB.out));(case side2=>exact HC0_0.out);rintro e w14 ⟨rfl,hb⟩;refine ⟨_,rfl,?_⟩;replace BK1:=kb_ BK1 hb;replace HB:=a0_ (below_step hbw_ hb);(try clear hb);(try clear hb2);(try clear hk);(try clear hi)) | ((with_reducible refine gate_callee (f:=22) rfl ?_);refine goesL_ (some 21) rfl rfl Try.func22 (by kernel_rfl) rfl #[.slice A1 l1.length c1,.int .i64 t2] rfl lm_ ?_;(with_reducible refine (laws_szRangeS.calls _ _ l1 t2 t3 _ ?side1 ?side2 A10.out).mono ?_);(case side1=>exact cc_ (Kd.C_below HR1.out HB.out));(case side2=>exact HC1.out);rintro e w' ⟨rfl,⟨nd,rfl⟩⟩;refine ⟨_,rfl,?_⟩))
   go_ret
   exact ⟨by first | rfl | (simp [errW_none,errW_some] <;> rfl) | (simp [*,errW_none,errW_some] <;> rfl),hbw_⟩
  ·rw [if_neg c11] at H
   have c11b0 : decide (t3 < 0) = false:=decide_eq_false c11
   clear c11
   replace H:=Option.bind_eq_some_iff.mp H
   obtain ⟨t4,A150,H⟩:=H
   try dsimp only at H
   have A15:=a0_ A150
   clear A150
   replace H:=Option.bind_eq_some_iff.mp H
   obtain ⟨t7,A160,H⟩:=H
   try dsimp only at H
   have A16:=a0_ A160
   clear A160
   replace H:=Option.bind_eq_some_iff.mp H
   obtain ⟨t10,A170,H⟩:=H
   try dsimp only at H
   have A17:=a0_ A170
   clear A170
   replace H:=Option.bind_eq_some_iff.mp H
   obtain ⟨t11,A180,H⟩:=H
   try dsimp only at H
   have A18:=a0_ A180
   clear A180
   replace H:=Option.bind_eq_some_iff.mp H
   obtain ⟨t15,A190,H⟩:=H
   try dsimp only at H
   have A19:=a0_ A190
   clear A190
   replace H:=Option.bind_eq_some_iff.mp H
   obtain ⟨t18,A200,H⟩:=H
   try dsimp only at H
   have A20:=a0_ A200
   clear A200
   by_cases c21 : t18 = t10
   ·rw [if_pos c21] at H
    have c21b0 : (t18 == t10) = true:=beq_iff_eq.mpr c21
    have c21b1 : (t18 != t10) = false:=bne_eq_false_iff_eq.mpr c21
    clear c21
    replace H:=Option.bind_eq_some_iff.mp H
    obtain ⟨t19,A220,H⟩:=H
    try dsimp only at H
    have A22:=a0_ A220
    clear A220
    replace H:=Option.bind_eq_some_iff.mp H
    obtain ⟨t22,A230,H⟩:=H
    try dsimp only at H
    have A23:=a0_ A230
    clear A230
    by_cases c24 : t22 = true
    ·subst c24
     have H1 : ((laws_toRangeS.f k l1).bind fun t23=>((laws_eqRangeS.f k t15 t23).bind fun t26=>(if t26 = true then (some true) else (some false)))) = some r:=by rw [if_pos rfl] at H;exact H
     clear H
     have H:=H1
     clear H1
     replace H:=Option.bind_eq_some_iff.mp H
     obtain ⟨t23,A250,H⟩:=H
     try dsimp only at H
     have A25:=a0_ A250
     clear A250
     replace H:=Option.bind_eq_some_iff.mp H
     obtain ⟨t26,A260,H⟩:=H
     replace H : (if t26 = true then (some true) else (some false)) = some r:=H
     have A26:=a0_ A260
     clear A260
     by_cases c27 : t26 = true
     ·subst c27
      have H1 : (some true) = some r:=by rw [if_pos rfl] at H;exact H
      clear H
      have H:=H1
      clear H1
      obtain rfl:=Option.some.inj H
      go_enter Try.func4,Try.ntmps4
      try go_wp2_with (first | ((with_reducible refine gate_dst (N:=4) rfl ?_);refine box_event ?hg (N:=4) ?hd (cs:=#[.slice A0_0 l0_0.length c0_0]) (t:=38) ?hr ?_;(case hd=>rfl);(case hg=>rfl);(case hr=>first | (go_simp;done) | (go_simp;rfl));intro gb1 hg w28 hbox hb;have BK1:=a0_ (hbox);have GW1:=a0_ ((by rw [hg];exact (below_size hbw_) : w.heap.size ≤ gb1));have GE1:=a0_ ((by rw [hg];exact (below_size hbw_) : w.heap.size ≤ gb1));replace HB:=a0_ (below_step hbw_ hb);clear hb hbox hg;have hcz29_0 : w28.cell? ⟨gb1,0,none⟩ = some (.slice A0_0 l0_0.length c0_0):=(blk_cell BK1.out 0).trans rfl;have hfz29_0:=blk_frozen BK1.out 0) | ((with_reducible refine gate_callee (f:=21) rfl ?_);refine goesL_ (some 16) rfl rfl Try.func21 (by kernel_rfl) rfl #[.agg #[.slice A0_0 l0_0.length c0_0],.int .i64 1048576] rfl lm_ ?_;(with_reducible refine (laws_szTree.calls k _ _ l0_0 1048576 t2 _ ?side1 ?side2 A5.out).mono ?_);(case side1=>exact cc_ (Kd.C_below HR0_0.out HB.out));(case side2=>exact HC0_0.out);rintro e w30 ⟨rfl,hb⟩;refine ⟨_,rfl,?_⟩;replace BK1:=kb_ BK1 hb;replace HB:=a0_ (below_step hbw_ hb);(try clear hb);(try clear hb2);(try clear hk);(try clear hi)) | ((with_reducible refine gate_callee (f:=22) rfl ?_);refine goesL_ (some 21) rfl rfl Try.func22 (by kernel_rfl) rfl #[.slice A1 l1.length c1,.int .i64 t2] rfl lm_ ?_;(with_reducible refine (laws_szRangeS.calls _ _ l1 t2 t3 _ ?side1 ?side2 A10.out).mono ?_);(case side1=>exact cc_ (Kd.C_below HR1.out HB.out));(case side2=>exact HC1.out);rintro e w' ⟨rfl,⟨nd,rfl⟩⟩;refine ⟨_,rfl,?_⟩;(try (rw [drewN_self w30];generalize hq_ : World.drewN w30 _ = w30;have n0_ : Aside0 (w30.heap[gb1]? = some (.cells #[.slice A0_0 l0_0.length c0_0] 38 (0,0))):=⟨by rw [← hq_];exact (bb_ BK1.out)⟩;have n1_ : Aside0 (Below w.heap.size w w30):=⟨by rw [← hq_];exact hbw_⟩;clear BK1 HB hq_;have BK1:=n0_;have HB:=n1_;clear n0_ n1_));have hcz31_0 : w30.cell? ⟨gb1,0,none⟩ = some (.slice A0_0 l0_0.length c0_0):=(blk_cell BK1.out 0).trans rfl;have hfz31_0:=blk_frozen BK1.out 0) | ((with_reducible refine gate_callee (f:=24) rfl ?_);refine goesL_ (some 25) rfl rfl Try.func24 (by kernel_rfl) rfl #[.agg #[.slice A0_0 l0_0.length c0_0]] rfl lm_ ?_;(with_reducible refine (laws_toTree.calls k _ _ l0_0 t4 _ ?side1 ?side2 A15.out).mono ?_);(case side1=>exact cc_ (Kd.C_below HR0_0.out HB.out));(case side2=>exact HC0_0.out);rintro e w32 ⟨v5,rfl,ho0,hb⟩;refine ⟨_,rfl,?_⟩;have HO6:=a0_ (Kd.R_lower ho0 (below_size hbw_));replace BK1:=kb_ BK1 hb;replace HB:=a0_ (below_step hbw_ hb);(try clear hb);(try clear ho0)) | ((with_reducible refine gate_callee (f:=25) rfl ?_);refine goesL_ (some 27) rfl rfl Try.func25 (by kernel_rfl) rfl #[.slice A1 l1.length c1] rfl lm_ ?_;(with_reducible refine (laws_toRangeS.calls k _ _ l1 t7 _ ?side1 ?side2 A16.out).mono ?_);(case side1=>exact cc_ (Kd.C_below HR1.out HB.out));(case side2=>exact HC1.out);rintro e w33 ⟨v8,rfl,ho0,hb⟩;refine ⟨_,rfl,?_⟩;replace HO6:=rb_ HO6 hb;have HO9:=a0_ (Kd.R_lower ho0 (below_size hbw_));replace BK1:=kb_ BK1 hb;replace HB:=a0_ (below_step hbw_ hb);(try clear hb);(try clear ho0);obtain ⟨Ao34,co34,eo34⟩:=Kd.R_slice HO6.out;subst eo34;obtain ⟨Ao35,co35,eo35⟩:=Kd.R_slice HO9.out;subst eo35) | ((with_reducible refine gate_callee (f:=23) rfl ?_);refine goesL_ (some 30) rfl rfl Try.func23 (by kernel_rfl) rfl #[.agg #[.slice Ao34 t4.length co34],.slice Ao35 t7.length co35,.int .i64 a2,.int .i64 a3] rfl lm_ ?_;(with_reducible refine (spec_LookUp.calls k _ _ t4 _ _ t7 a2 a3 t10 _ ?side1 ?side2 ?side3 ?side4 A17.out).mono ?_);(case side1=>exact cc_ (Kd.R_reads' HO6.out).2.2);(case side2=>exact (Kd.R_reads' HO6.out).2.1);(case side3=>exact cc_ (Kd.R_reads' HO9.out).2.2);(case side4=>exact (Kd.R_reads' HO9.out).2.1);rintro e w36 ⟨rfl,hb⟩;refine ⟨_,rfl,?_⟩;replace HO6:=rb_ HO6 hb;replace HO9:=rb_ HO9 hb;replace BK1:=kb_ BK1 hb;replace HB:=a0_ (below_step hbw_ hb);(try clear hb);have hcz37_0 : w36.cell? ⟨gb1,0,none⟩ = some (.slice A0_0 l0_0.length c0_0):=(blk_cell BK1.out 0).trans rfl;have hfz37_0:=blk_frozen BK1.out 0) | ((with_reducible refine gate_callee (f:=24) rfl ?_);refine goesL_ (some 32) rfl rfl Try.func24 (by kernel_rfl) rfl #[.agg #[.slice A0_0 l0_0.length c0_0]] rfl lm_ ?_;(with_reducible refine (laws_toTree.calls k _ _ l0_0 t11 _ ?side1 ?side2 A18.out).mono ?_);(case side1=>exact cc_ (Kd.C_below HR0_0.out HB.out));(case side2=>exact HC0_0.out);rintro e w38 ⟨v12,rfl,ho0,hb⟩;refine ⟨_,rfl,?_⟩;have n0_:=a0_ (Kd.R_elder' (rr_ HO6.out) (Kd.R_base ho0) hb);have n1_:=rb_ HO9 hb;have n2_:=a0_ (Kd.R_lower (Kd.R_new' ho0 (Kd.R_lt (rr_ HO6.out))) (below_size hbw_));have n3_:=kb_ BK1 hb;have n4_:=a0_ (below_step hbw_ hb);clear HO6 HO9;clear BK1 HB;have HO6:=n0_;have HO9:=n1_;have HO13:=n2_;have BK1:=n3_;have HB:=n4_;clear n0_ n1_ n2_ n3_ n4_;(try clear hb);(try clear ho0)) | ((with_reducible refine gate_dst (N:=11) rfl ?_);refine box_event ?hg (N:=11) ?hd (cs:=#[.slice none 0 0]) (t:=25) ?hr ?_;(case hd=>rfl);(case hg=>rfl);(case hr=>first | (go_simp;done) | (go_simp;rfl));intro gb14 hg w39 hbox hb;have n0_:=rb_ HO6 hb;have n1_:=rb_ HO9 hb;have n2_:=rb_ HO13 hb;have n3_:=kb_ BK1 hb;have n4_:=a0_ (below_step hbw_ hb);have n5_:=a0_ (hbox);have n6_:=a0_ ((by rw [hg];exact (below_size hbw_) : w.heap.size ≤ gb14));have n7_:=a0_ ((by rw [hg];exact (below_size hbw_) : w.heap.size ≤ gb14));have n8_:=a0_ ((by rw [hg];exact Nat.ne_of_lt (blk_lt (bb_ BK1.out)) : gb1 ≠ gb14));have n9_:=a0_ ((by rw [hg];exact Nat.ne_of_gt (blk_lt (bb_ BK1.out)) : gb14 ≠ gb1));clear HO6 HO9;clear HO13 BK1 HB;have HO6:=n0_;have HO9:=n1_;have HO13:=n2_;have BK1:=n3_;have HB:=n4_;have BK14:=n5_;have GW14:=n6_;have GE14:=n7_;have NB1_14:=n8_;have NB14_1:=n9_;clear n0_ n1_ n2_ n3_ n4_ n5_ n6_ n7_ n8_ n9_;clear hb hbox hg;obtain ⟨Ao40,co40,eo40⟩:=Kd.R_slice HO13.out;subst eo40;have hnb41:=NB14_1.out;have hnc41:=NB1_14.out;have hcz42_0 : w39.cell? ⟨gb14,0,none⟩ = some (.slice none 0 0):=(blk_cell BK14.out 0).trans rfl;have hfz42_0:=blk_frozen BK14.out 0) | ((with_reducible refine gate_callee (f:=25) rfl ?_);refine goesL_ (some 34) rfl rfl Try.func25 (by kernel_rfl) rfl #[.slice A1 l1.length c1] rfl lm_ ?_;(with_reducible refine (laws_toRangeS.calls k _ _ l1 t15 _ ?side1 ?side2 A19.out).mono ?_);(case side1=>exact Kd.C_below HR1.out hbw_);(case side2=>exact HC1.out);rintro e w43 ⟨v16,rfl,ho0,hb⟩;refine ⟨_,rfl,?_⟩;have n0_:=a0_ (Kd.R_below (by (with_reducible repeat (first | apply Kd.R_alloc | apply Kd.R_drewN | apply Kd.R_drew));exact (Kd.R_mono (Kd.R_far (p:=⟨gb14,0,none⟩) (Kd.R_types HO6.out BK14.out (by decide)) (fun _ hk=>hk.2) (.slice Ao40 t11.length co40)) (fun _ h_=>h_.1))) hb);have n1_:=a0_ (Kd.R_elder' (by (with_reducible repeat (first | apply Kd.R_alloc | apply Kd.R_drewN | apply Kd.R_drew));exact (Kd.R_mono (Kd.R_far (p:=⟨gb14,0,none⟩) (Kd.R_types HO9.out BK14.out (by decide)) (fun _ hk=>hk.2) (.slice Ao40 t11.length co40)) (fun _ h_=>h_.1))) (Kd.R_base ho0) hb);have n2_:=a0_ (Kd.R_below (by (with_reducible repeat (first | apply Kd.R_alloc | apply Kd.R_drewN | apply Kd.R_drew));exact (Kd.R_mono (Kd.R_far (p:=⟨gb14,0,none⟩) (Kd.R_types HO13.out BK14.out (by decide)) (fun _ hk=>hk.2) (.slice Ao40 t11.length co40)) (fun _ h_=>h_.1))) hb);have n3_:=a0_ (Kd.R_lower (Kd.R_new' ho0 (Kd.R_lt (by (with_reducible repeat (first | apply Kd.R_alloc | apply Kd.R_drewN | apply Kd.R_drew));exact (Kd.R_mono (Kd.R_far (p:=⟨gb14,0,none⟩) (Kd.R_types HO9.out BK14.out (by decide)) (fun _ hk=>hk.2) (.slice Ao40 t11.length co40)) (fun _ h_=>h_.1))))) (below_size hbw_));have n4_:=kf_ BK1 NB1_14 hb;have n5_:=a0_ (blk_below (g:=gb14) (o:=.cells #[.slice Ao40 t11.length co40] 25 (0,0)) (by (with_reducible repeat (first | refine blk_drewN ?_ _ | refine blk_drew ?_ | refine blk_alloc ?_ _));refine blk_put (cs:=#[.slice none 0 0]) ?_ 0 _ rfl;(with_reducible repeat (first | refine blk_drewN ?_ _ | refine blk_drew ?_ | refine blk_alloc ?_ _));exact BK14.out) hb);have n6_:=a0_ (below_step hbw_ hb);clear HO6 HO9;clear HO13 BK1;clear BK14 HB;have HO6:=n0_;have HO9:=n1_;have HO13:=n2_;have HO17:=n3_;have BK1:=n4_;have BK14:=n5_;have HB:=n6_;clear n0_ n1_ n2_ n3_ n4_ n5_ n6_;(try clear hb);(try clear ho0);have hcz44_0 : w43.cell? ⟨gb14,0,none⟩ = some (.slice Ao40 t11.length co40):=(blk_cell BK14.out 0).trans rfl;have hfz44_0:=blk_frozen BK14.out 0;obtain ⟨Ao45,co45,eo45⟩:=Kd.R_slice HO17.out;subst eo45) | ((with_reducible refine gate_callee (f:=26) rfl ?_);refine goesL_ (some 39) rfl rfl Try.func26 (by kernel_rfl) rfl #[.agg #[.slice Ao40 t11.length co40],.slice Ao45 t15.length co45,.int .i64 a2,.int .i64 a3] rfl lm_ ?_;(with_reducible refine (impl_LookUp.calls _ _ t11 _ _ t15 a2 a3 t18 _ ?side1 ?side2 ?side3 ?side4 A20.out).mono ?_);(case side1=>exact cc_ (Kd.R_reads' HO13.out).2.2);(case side2=>exact (Kd.R_reads' HO13.out).2.1);(case side3=>exact cc_ (Kd.R_reads' HO17.out).2.2);(case side4=>exact (Kd.R_reads' HO17.out).2.1);rintro e w46 ⟨rfl,hb⟩;refine ⟨_,rfl,?_⟩;replace HO6:=rb_ HO6 hb;replace HO9:=rb_ HO9 hb;replace HO13:=rb_ HO13 hb;replace HO17:=rb_ HO17 hb;replace BK1:=kb_ BK1 hb;replace BK14:=kb_ BK14 hb;replace HB:=a0_ (below_step hbw_ hb);(try clear hb);(try clear hb2);(try clear hk);(try clear hi)))
      have n0_:=a0_ (Kd.R_drew HO6.out)
      have n1_:=a0_ (Kd.R_drew HO9.out)
      have n2_:=a0_ (Kd.R_drew HO13.out)
      have n3_:=a0_ (Kd.R_drew HO17.out)
      have n4_:=a0_ (blk_drew BK1.out)
      have n5_:=a0_ (blk_drew BK14.out)
      have n6_:=a0_ (below_drew1 HB.out)
      clear HO6
      clear HO9
      clear HO13
      clear HO17
      clear BK1
      clear BK14
      clear HB
      have HO6:=n0_
      have HO9:=n1_
      have HO13:=n2_
      have HO17:=n3_
      have BK1:=n4_
      have BK14:=n5_
      have HB:=n6_
      clear n0_ n1_ n2_ n3_ n4_ n5_ n6_
      refine start_ (n:=5) (S:=fun w'=>w'.cell? ⟨gb14,0,none⟩ = some (.slice Ao40 t11.length co40) ∧ w'.cell? ⟨gb1,0,none⟩ = some (.slice A0_0 l0_0.length c0_0)) (ds:=[]) #[false,false,false,false,false] (by kernel_rfl) rfl rfl ⟨(blk_cell BK14.out 0).trans rfl,(blk_cell BK1.out 0).trans rfl⟩ (fun hHeld=>?_)
      generalize w46.drew = w47 at HO6 HO9 HO13 HO17 BK1 BK14 HB hHeld ⊢
      refine take_ (i:=0) (N:=some 43) (v:=?_) (a':=?_) #[true,false,false,false,false] rfl rfl (by kernel_rfl) (fun _ _ _ h=>h) (Or.inl ⟨by rfl,?_⟩) hHeld ?_ ?_
      rotate_left
      ·rintro w' ⟨s0,s1⟩
       go_simp
       with_reducible rfl
      rotate_left
      ·simp only [Act.put,s1_,s2_,s3_,i64_w,i32_w]
       rfl
      refine take_ (i:=1) (N:=some 44) (v:=?_) (a':=?_) #[true,true,false,false,false] rfl rfl (by kernel_rfl) (fun _ _ _ h=>h) (Or.inl ⟨by rfl,?_⟩) hHeld ?_ ?_
      rotate_left
      ·rintro w' ⟨s0,s1⟩
       go_simp
       with_reducible rfl
      rotate_left
      ·simp only [Act.put,s1_,s2_,s3_,i64_w,i32_w]
       rfl
      refine one_ (i:=2) (N:=some 45) #[true,true,true,false,false] rfl rfl (by kernel_rfl) (by decide) (fun K hK=>?_)
      refine goes_ Try.func24 (by kernel_rfl) rfl #[.agg #[.slice A0_0 l0_0.length c0_0]] (by rfl) rfl rfl lm_ ?_
      with_reducible refine (laws_toTree.calls k _ _ l0_0 t19 _ ?side1 ?side2 A22.out).mono ?_
      (case side1=>exact cc_ (Kd.C_below HR0_0.out HB.out))
      (case side2=>exact HC0_0.out)
      rintro e w48 ⟨v20,rfl,ho0,hb⟩
      refine ⟨_,rfl,?_⟩
      have n0_:=a0_ (Kd.R_elder' (rr_ HO6.out) (Kd.R_base ho0) hb)
      have n1_:=rb_ HO9 hb
      have n2_:=a0_ (Kd.R_elder' (rr_ HO13.out) (Kd.R_base ho0) hb)
      have n3_:=rb_ HO17 hb
      have n4_:=a0_ (Kd.R_lower (Kd.R_new' (Kd.R_new' ho0 (Kd.R_lt (rr_ HO6.out))) (Kd.R_lt (rr_ HO13.out))) (below_size hbw_))
      have n5_:=kb_ BK1 hb
      have n6_:=kb_ BK14 hb
      have n7_:=a0_ (below_step hbw_ hb)
      clear HO6
      clear HO9
      clear HO13
      clear HO17
      clear BK1
      clear BK14
      clear HB
      have HO6:=n0_
      have HO9:=n1_
      have HO13:=n2_
      have HO17:=n3_
      have HO21:=n4_
      have BK1:=n5_
      have BK14:=n6_
      have HB:=n7_
      clear n0_ n1_ n2_ n3_ n4_ n5_ n6_ n7_
      (try clear hb)
      (try clear hb2)
      (try clear hk)
      (try clear hi)
      (try clear ho0)
      obtain ⟨Ao49,co49,eo49⟩:=Kd.R_slice HO21.out
      (first | subst eo49 | (injection eo49 with f1_ f2_ f3_;have f4_:=f1_.symm;have f5_:=f3_.symm;clear f1_ f2_ f3_;subst f4_;subst f5_))
      refine hK.out _ _ ⟨(blk_cell BK14.out 0).trans rfl,(blk_cell BK1.out 0).trans rfl⟩ (fun hHeld=>?_)
      clear hK K
      refine norm_ (a':=?_) ?_ ?_
      rotate_left
      ·show Act.put _ (some 45) _ = _
       simp only [Act.put,s1_,s2_,s3_,i64_w,i32_w]
       rfl
      refine one_ (i:=3) (N:=some 46) #[true,true,true,true,false] rfl rfl (by kernel_rfl) (by decide) (fun K hK=>?_)
      refine goes_ Try.func27 (by kernel_rfl) rfl #[.agg #[.slice Ao40 t11.length co40],.agg #[.slice Ao49 t19.length co49]] (by rfl) rfl rfl lm_ ?_
      with_reducible refine (laws_eqTree.calls k _ _ t11 _ _ t19 true _ ?side1 ?side2 ?side3 ?side4 A23.out).mono ?_
      (case side1=>exact cc_ (Kd.R_reads' HO13.out).2.2)
      (case side2=>exact (Kd.R_reads' HO13.out).2.1)
      (case side3=>exact cc_ (Kd.R_reads' HO21.out).2.2)
      (case side4=>exact (Kd.R_reads' HO21.out).2.1)
      rintro e w50 ⟨rfl,hb⟩
      refine ⟨_,rfl,?_⟩
      have n0_:=rb_ HO6 hb
      have n1_:=rb_ HO9 hb
      have n2_:=rb_ HO13 hb
      have n3_:=rb_ HO17 hb
      have n4_:=rb_ HO21 hb
      have n5_:=kb_ BK1 hb
      have n6_:=kb_ BK14 hb
      have n7_:=a0_ (below_step hbw_ hb)
      clear HO6
      clear HO9
      clear HO13
      clear HO17
      clear HO21
      clear BK1
      clear BK14
      clear HB
      have HO6:=n0_
      have HO9:=n1_
      have HO13:=n2_
      have HO17:=n3_
      have HO21:=n4_
      have BK1:=n5_
      have BK14:=n6_
      have HB:=n7_
      clear n0_ n1_ n2_ n3_ n4_ n5_ n6_ n7_
      (try clear hb)
      (try clear hb2)
      (try clear hk)
      (try clear hi)
      refine hK.out _ _ ⟨(blk_cell BK14.out 0).trans rfl,(blk_cell BK1.out 0).trans rfl⟩ (fun hHeld=>?_)
      clear hK K
      refine norm_ (a':=?_) ?_ ?_
      rotate_left
      ·show Act.put _ (some 46) _ = _
       simp only [Act.put,s1_,s2_,s3_,i64_w,i32_w]
       rfl
      refine pure_ (i:=4) (N:=some 47) (v:=?_) (a':=?_) #[true,true,true,true,true] rfl rfl (by kernel_rfl) (fun _ _ _ h=>h) (Or.inl ⟨by rfl,?_⟩) ?_ ?_
      rotate_left
      ·intro w'
       go_simp
       with_reducible rfl
      rotate_left
      ·simp only [Act.put,s1_,s2_,s3_,i64_w,i32_w]
       rfl
      refine done_ (by kernel_rfl) ?_
      try go_wp2_with (first | ((with_reducible refine gate_callee (f:=25) rfl ?_);refine goesL_ (some 50) rfl rfl Try.func25 (by kernel_rfl) rfl #[.slice A1 l1.length c1] rfl lm_ ?_;(with_reducible refine (laws_toRangeS.calls k _ _ l1 t23 _ ?side1 ?side2 A25.out).mono ?_);(case side1=>exact cc_ (Kd.C_below HR1.out HB.out));(case side2=>exact HC1.out);rintro e w51 ⟨v24,rfl,ho0,hb⟩;refine ⟨_,rfl,?_⟩;have n0_:=rb_ HO6 hb;have n1_:=a0_ (Kd.R_elder' (rr_ HO9.out) (Kd.R_base ho0) hb);have n2_:=rb_ HO13 hb;have n3_:=a0_ (Kd.R_elder' (rr_ HO17.out) (Kd.R_base ho0) hb);have n4_:=rb_ HO21 hb;have n5_:=a0_ (Kd.R_lower (Kd.R_new' (Kd.R_new' ho0 (Kd.R_lt (rr_ HO9.out))) (Kd.R_lt (rr_ HO17.out))) (below_size hbw_));have n6_:=kb_ BK1 hb;have n7_:=kb_ BK14 hb;have n8_:=a0_ (below_step hbw_ hb);clear HO6 HO9;clear HO13 HO17;clear HO21 BK1;clear BK14 HB;have HO6:=n0_;have HO9:=n1_;have HO13:=n2_;have HO17:=n3_;have HO21:=n4_;have HO25:=n5_;have BK1:=n6_;have BK14:=n7_;have HB:=n8_;clear n0_ n1_ n2_ n3_ n4_ n5_ n6_ n7_ n8_;(try clear hb);(try clear ho0);obtain ⟨Ao52,co52,eo52⟩:=Kd.R_slice HO25.out;subst eo52) | ((with_reducible refine gate_callee (f:=28) rfl ?_);refine goesL_ (some 51) rfl rfl Try.func28 (by kernel_rfl) rfl #[.slice Ao45 t15.length co45,.slice Ao52 t23.length co52] rfl lm_ ?_;(with_reducible refine (laws_eqRangeS.calls k _ _ t15 _ _ t23 true _ ?side1 ?side2 ?side3 ?side4 A26.out).mono ?_);(case side1=>exact cc_ (Kd.R_reads' HO17.out).2.2);(case side2=>exact (Kd.R_reads' HO17.out).2.1);(case side3=>exact cc_ (Kd.R_reads' HO25.out).2.2);(case side4=>exact (Kd.R_reads' HO25.out).2.1);rintro e w53 ⟨rfl,hb⟩;refine ⟨_,rfl,?_⟩;replace HO6:=rb_ HO6 hb;replace HO9:=rb_ HO9 hb;replace HO13:=rb_ HO13 hb;replace HO17:=rb_ HO17 hb;replace HO21:=rb_ HO21 hb;replace HO25:=rb_ HO25 hb;replace BK1:=kb_ BK1 hb;replace BK14:=kb_ BK14 hb;replace HB:=a0_ (below_step hbw_ hb);(try clear hb);(try clear hb2);(try clear hk);(try clear hi)))
      go_ret
      exact ⟨by first | rfl | (simp [errW_none,errW_some] <;> rfl) | (simp [*,errW_none,errW_some] <;> rfl),hbw_⟩
     ·replace c27:=Bool.eq_false_iff.mpr c27
      subst c27
      have H1 : (some false) = some r:=by rw [if_neg (show ¬ (false = true) by decide)] at H;exact H
      clear H
      have H:=H1
      clear H1
      obtain rfl:=Option.some.inj H
      go_enter Try.func4,Try.ntmps4
      try go_wp2_with (first | ((with_reducible refine gate_dst (N:=4) rfl ?_);refine box_event ?hg (N:=4) ?hd (cs:=#[.slice A0_0 l0_0.length c0_0]) (t:=38) ?hr ?_;(case hd=>rfl);(case hg=>rfl);(case hr=>first | (go_simp;done) | (go_simp;rfl));intro gb1 hg w54 hbox hb;have BK1:=a0_ (hbox);have GW1:=a0_ ((by rw [hg];exact (below_size hbw_) : w.heap.size ≤ gb1));have GE1:=a0_ ((by rw [hg];exact (below_size hbw_) : w.heap.size ≤ gb1));replace HB:=a0_ (below_step hbw_ hb);clear hb hbox hg;have hcz55_0 : w54.cell? ⟨gb1,0,none⟩ = some (.slice A0_0 l0_0.length c0_0):=(blk_cell BK1.out 0).trans rfl;have hfz55_0:=blk_frozen BK1.out 0) | ((with_reducible refine gate_callee (f:=21) rfl ?_);refine goesL_ (some 16) rfl rfl Try.func21 (by kernel_rfl) rfl #[.agg #[.slice A0_0 l0_0.length c0_0],.int .i64 1048576] rfl lm_ ?_;(with_reducible refine (laws_szTree.calls k _ _ l0_0 1048576 t2 _ ?side1 ?side2 A5.out).mono ?_);(case side1=>exact cc_ (Kd.C_below HR0_0.out HB.out));(case side2=>exact HC0_0.out);rintro e w56 ⟨rfl,hb⟩;refine ⟨_,rfl,?_⟩;replace BK1:=kb_ BK1 hb;replace HB:=a0_ (below_step hbw_ hb);(try clear hb);(try clear hb2);(try clear hk);(try clear hi)) | ((with_reducible refine gate_callee (f:=22) rfl ?_);refine goesL_ (some 21) rfl rfl Try.func22 (by kernel_rfl) rfl #[.slice A1 l1.length c1,.int .i64 t2] rfl lm_ ?_;(with_reducible refine (laws_szRangeS.calls _ _ l1 t2 t3 _ ?side1 ?side2 A10.out).mono ?_);(case side1=>exact cc_ (Kd.C_below HR1.out HB.out));(case side2=>exact HC1.out);rintro e w' ⟨rfl,⟨nd,rfl⟩⟩;refine ⟨_,rfl,?_⟩;(try (rw [drewN_self w56];generalize hq_ : World.drewN w56 _ = w56;have n0_ : Aside0 (w56.heap[gb1]? = some (.cells #[.slice A0_0 l0_0.length c0_0] 38 (0,0))):=⟨by rw [← hq_];exact (bb_ BK1.out)⟩;have n1_ : Aside0 (Below w.heap.size w w56):=⟨by rw [← hq_];exact hbw_⟩;clear BK1 HB hq_;have BK1:=n0_;have HB:=n1_;clear n0_ n1_));have hcz57_0 : w56.cell? ⟨gb1,0,none⟩ = some (.slice A0_0 l0_0.length c0_0):=(blk_cell BK1.out 0).trans rfl;have hfz57_0:=blk_frozen BK1.out 0) | ((with_reducible refine gate_callee (f:=24) rfl ?_);refine goesL_ (some 25) rfl rfl Try.func24 (by kernel_rfl) rfl #[.agg #[.slice A0_0 l0_0.length c0_0]] rfl lm_ ?_;(with_reducible refine (laws_toTree.calls k _ _ l0_0 t4 _ ?side1 ?side2 A15.out).mono ?_);(case side1=>exact cc_ (Kd.C_below HR0_0.out HB.out));(case side2=>exact HC0_0.out);rintro e w58 ⟨v5,rfl,ho0,hb⟩;refine ⟨_,rfl,?_⟩;have HO6:=a0_ (Kd.R_lower ho0 (below_size hbw_));replace BK1:=kb_ BK1 hb;replace HB:=a0_ (below_step hbw_ hb);(try clear hb);(try clear ho0)) | ((with_reducible refine gate_callee (f:=25) rfl ?_);refine goesL_ (some 27) rfl rfl Try.func25 (by kernel_rfl) rfl #[.slice A1 l1.length c1] rfl lm_ ?_;(with_reducible refine (laws_toRangeS.calls k _ _ l1 t7 _ ?side1 ?side2 A16.out).mono ?_);(case side1=>exact cc_ (Kd.C_below HR1.out HB.out));(case side2=>exact HC1.out);rintro e w59 ⟨v8,rfl,ho0,hb⟩;refine ⟨_,rfl,?_⟩;replace HO6:=rb_ HO6 hb;have HO9:=a0_ (Kd.R_lower ho0 (below_size hbw_));replace BK1:=kb_ BK1 hb;replace HB:=a0_ (below_step hbw_ hb);(try clear hb);(try clear ho0);obtain ⟨Ao60,co60,eo60⟩:=Kd.R_slice HO6.out;subst eo60;obtain ⟨Ao61,co61,eo61⟩:=Kd.R_slice HO9.out;subst eo61) | ((with_reducible refine gate_callee (f:=23) rfl ?_);refine goesL_ (some 30) rfl rfl Try.func23 (by kernel_rfl) rfl #[.agg #[.slice Ao60 t4.length co60],.slice Ao61 t7.length co61,.int .i64 a2,.int .i64 a3] rfl lm_ ?_;(with_reducible refine (spec_LookUp.calls k _ _ t4 _ _ t7 a2 a3 t10 _ ?side1 ?side2 ?side3 ?side4 A17.out).mono ?_);(case side1=>exact cc_ (Kd.R_reads' HO6.out).2.2);(case side2=>exact (Kd.R_reads' HO6.out).2.1);(case side3=>exact cc_ (Kd.R_reads' HO9.out).2.2);(case side4=>exact (Kd.R_reads' HO9.out).2.1);rintro e w62 ⟨rfl,hb⟩;refine ⟨_,rfl,?_⟩;replace HO6:=rb_ HO6 hb;replace HO9:=rb_ HO9 hb;replace BK1:=kb_ BK1 hb;replace HB:=a0_ (below_step hbw_ hb);(try clear hb);have hcz63_0 : w62.cell? ⟨gb1,0,none⟩ = some (.slice A0_0 l0_0.length c0_0):=(blk_cell BK1.out 0).trans rfl;have hfz63_0:=blk_frozen BK1.out 0) | ((with_reducible refine gate_callee (f:=24) rfl ?_);refine goesL_ (some 32) rfl rfl Try.func24 (by kernel_rfl) rfl #[.agg #[.slice A0_0 l0_0.length c0_0]] rfl lm_ ?_;(with_reducible refine (laws_toTree.calls k _ _ l0_0 t11 _ ?side1 ?side2 A18.out).mono ?_);(case side1=>exact cc_ (Kd.C_below HR0_0.out HB.out));(case side2=>exact HC0_0.out);rintro e w64 ⟨v12,rfl,ho0,hb⟩;refine ⟨_,rfl,?_⟩;have n0_:=a0_ (Kd.R_elder' (rr_ HO6.out) (Kd.R_base ho0) hb);have n1_:=rb_ HO9 hb;have n2_:=a0_ (Kd.R_lower (Kd.R_new' ho0 (Kd.R_lt (rr_ HO6.out))) (below_size hbw_));have n3_:=kb_ BK1 hb;have n4_:=a0_ (below_step hbw_ hb);clear HO6 HO9;clear BK1 HB;have HO6:=n0_;have HO9:=n1_;have HO13:=n2_;have BK1:=n3_;have HB:=n4_;clear n0_ n1_ n2_ n3_ n4_;(try clear hb);(try clear ho0)) | ((with_reducible refine gate_dst (N:=11) rfl ?_);refine box_event ?hg (N:=11) ?hd (cs:=#[.slice none 0 0]) (t:=25) ?hr ?_;(case hd=>rfl);(case hg=>rfl);(case hr=>first | (go_simp;done) | (go_simp;rfl));intro gb14 hg w65 hbox hb;have n0_:=rb_ HO6 hb;have n1_:=rb_ HO9 hb;have n2_:=rb_ HO13 hb;have n3_:=kb_ BK1 hb;have n4_:=a0_ (below_step hbw_ hb);have n5_:=a0_ (hbox);have n6_:=a0_ ((by rw [hg];exact (below_size hbw_) : w.heap.size ≤ gb14));have n7_:=a0_ ((by rw [hg];exact (below_size hbw_) : w.heap.size ≤ gb14));have n8_:=a0_ ((by rw [hg];exact Nat.ne_of_lt (blk_lt (bb_ BK1.out)) : gb1 ≠ gb14));have n9_:=a0_ ((by rw [hg];exact Nat.ne_of_gt (blk_lt (bb_ BK1.out)) : gb14 ≠ gb1));clear HO6 HO9;clear HO13 BK1 HB;have HO6:=n0_;have HO9:=n1_;have HO13:=n2_;have BK1:=n3_;have HB:=n4_;have BK14:=n5_;have GW14:=n6_;have GE14:=n7_;have NB1_14:=n8_;have NB14_1:=n9_;clear n0_ n1_ n2_ n3_ n4_ n5_ n6_ n7_ n8_ n9_;clear hb hbox hg;obtain ⟨Ao66,co66,eo66⟩:=Kd.R_slice HO13.out;subst eo66;have hnb67:=NB14_1.out;have hnc67:=NB1_14.out;have hcz68_0 : w65.cell? ⟨gb14,0,none⟩ = some (.slice none 0 0):=(blk_cell BK14.out 0).trans rfl;have hfz68_0:=blk_frozen BK14.out 0) | ((with_reducible refine gate_callee (f:=25) rfl ?_);refine goesL_ (some 34) rfl rfl Try.func25 (by kernel_rfl) rfl #[.slice A1 l1.length c1] rfl lm_ ?_;(with_reducible refine (laws_toRangeS.calls k _ _ l1 t15 _ ?side1 ?side2 A19.out).mono ?_);(case side1=>exact Kd.C_below HR1.out hbw_);(case side2=>exact HC1.out);rintro e w69 ⟨v16,rfl,ho0,hb⟩;refine ⟨_,rfl,?_⟩;have n0_:=a0_ (Kd.R_below (by (with_reducible repeat (first | apply Kd.R_alloc | apply Kd.R_drewN | apply Kd.R_drew));exact (Kd.R_mono (Kd.R_far (p:=⟨gb14,0,none⟩) (Kd.R_types HO6.out BK14.out (by decide)) (fun _ hk=>hk.2) (.slice Ao66 t11.length co66)) (fun _ h_=>h_.1))) hb);have n1_:=a0_ (Kd.R_elder' (by (with_reducible repeat (first | apply Kd.R_alloc | apply Kd.R_drewN | apply Kd.R_drew));exact (Kd.R_mono (Kd.R_far (p:=⟨gb14,0,none⟩) (Kd.R_types HO9.out BK14.out (by decide)) (fun _ hk=>hk.2) (.slice Ao66 t11.length co66)) (fun _ h_=>h_.1))) (Kd.R_base ho0) hb);have n2_:=a0_ (Kd.R_below (by (with_reducible repeat (first | apply Kd.R_alloc | apply Kd.R_drewN | apply Kd.R_drew));exact (Kd.R_mono (Kd.R_far (p:=⟨gb14,0,none⟩) (Kd.R_types HO13.out BK14.out (by decide)) (fun _ hk=>hk.2) (.slice Ao66 t11.length co66)) (fun _ h_=>h_.1))) hb);have n3_:=a0_ (Kd.R_lower (Kd.R_new' ho0 (Kd.R_lt (by (with_reducible repeat (first | apply Kd.R_alloc | apply Kd.R_drewN | apply Kd.R_drew));exact (Kd.R_mono (Kd.R_far (p:=⟨gb14,0,none⟩) (Kd.R_types HO9.out BK14.out (by decide)) (fun _ hk=>hk.2) (.slice Ao66 t11.length co66)) (fun _ h_=>h_.1))))) (below_size hbw_));have n4_:=kf_ BK1 NB1_14 hb;have n5_:=a0_ (blk_below (g:=gb14) (o:=.cells #[.slice Ao66 t11.length co66] 25 (0,0)) (by (with_reducible repeat (first | refine blk_drewN ?_ _ | refine blk_drew ?_ | refine blk_alloc ?_ _));refine blk_put (cs:=#[.slice none 0 0]) ?_ 0 _ rfl;(with_reducible repeat (first | refine blk_drewN ?_ _ | refine blk_drew ?_ | refine blk_alloc ?_ _));exact BK14.out) hb);have n6_:=a0_ (below_step hbw_ hb);clear HO6 HO9;clear HO13 BK1;clear BK14 HB;have HO6:=n0_;have HO9:=n1_;have HO13:=n2_;have HO17:=n3_;have BK1:=n4_;have BK14:=n5_;have HB:=n6_;clear n0_ n1_ n2_ n3_ n4_ n5_ n6_;(try clear hb);(try clear ho0);have hcz70_0 : w69.cell? ⟨gb14,0,none⟩ = some (.slice Ao66 t11.length co66):=(blk_cell BK14.out 0).trans rfl;have hfz70_0:=blk_frozen BK14.out 0;obtain ⟨Ao71,co71,eo71⟩:=Kd.R_slice HO17.out;subst eo71) | ((with_reducible refine gate_callee (f:=26) rfl ?_);refine goesL_ (some 39) rfl rfl Try.func26 (by kernel_rfl) rfl #[.agg #[.slice Ao66 t11.length co66],.slice Ao71 t15.length co71,.int .i64 a2,.int .i64 a3] rfl lm_ ?_;(with_reducible refine (impl_LookUp.calls _ _ t11 _ _ t15 a2 a3 t18 _ ?side1 ?side2 ?side3 ?side4 A20.out).mono ?_);(case side1=>exact cc_ (Kd.R_reads' HO13.out).2.2);(case side2=>exact (Kd.R_reads' HO13.out).2.1);(case side3=>exact cc_ (Kd.R_reads' HO17.out).2.2);(case side4=>exact (Kd.R_reads' HO17.out).2.1);rintro e w72 ⟨rfl,hb⟩;refine ⟨_,rfl,?_⟩;replace HO6:=rb_ HO6 hb;replace HO9:=rb_ HO9 hb;replace HO13:=rb_ HO13 hb;replace HO17:=rb_ HO17 hb;replace BK1:=kb_ BK1 hb;replace BK14:=kb_ BK14 hb;replace HB:=a0_ (below_step hbw_ hb);(try clear hb);(try clear hb2);(try clear hk);(try clear hi)))
      have n0_:=a0_ (Kd.R_drew HO6.out)
      have n1_:=a0_ (Kd.R_drew HO9.out)
      have n2_:=a0_ (Kd.R_drew HO13.out)
      have n3_:=a0_ (Kd.R_drew HO17.out)
      have n4_:=a0_ (blk_drew BK1.out)
      have n5_:=a0_ (blk_drew BK14.out)
      have n6_:=a0_ (below_drew1 HB.out)
      clear HO6
      clear HO9
      clear HO13
      clear HO17
      clear BK1
      clear BK14
      clear HB
      have HO6:=n0_
      have HO9:=n1_
      have HO13:=n2_
      have HO17:=n3_
      have BK1:=n4_
      have BK14:=n5_
      have HB:=n6_
      clear n0_ n1_ n2_ n3_ n4_ n5_ n6_
      refine start_ (n:=5) (S:=fun w'=>w'.cell? ⟨gb14,0,none⟩ = some (.slice Ao66 t11.length co66) ∧ w'.cell? ⟨gb1,0,none⟩ = some (.slice A0_0 l0_0.length c0_0)) (ds:=[]) #[false,false,false,false,false] (by kernel_rfl) rfl rfl ⟨(blk_cell BK14.out 0).trans rfl,(blk_cell BK1.out 0).trans rfl⟩ (fun hHeld=>?_)
      generalize w72.drew = w73 at HO6 HO9 HO13 HO17 BK1 BK14 HB hHeld ⊢
      refine take_ (i:=0) (N:=some 43) (v:=?_) (a':=?_) #[true,false,false,false,false] rfl rfl (by kernel_rfl) (fun _ _ _ h=>h) (Or.inl ⟨by rfl,?_⟩) hHeld ?_ ?_
      rotate_left
      ·rintro w' ⟨s0,s1⟩
       go_simp
       with_reducible rfl
      rotate_left
      ·simp only [Act.put,s1_,s2_,s3_,i64_w,i32_w]
       rfl
      refine take_ (i:=1) (N:=some 44) (v:=?_) (a':=?_) #[true,true,false,false,false] rfl rfl (by kernel_rfl) (fun _ _ _ h=>h) (Or.inl ⟨by rfl,?_⟩) hHeld ?_ ?_
      rotate_left
      ·rintro w' ⟨s0,s1⟩
       go_simp
       with_reducible rfl
      rotate_left
      ·simp only [Act.put,s1_,s2_,s3_,i64_w,i32_w]
       rfl
      refine one_ (i:=2) (N:=some 45) #[true,true,true,false,false] rfl rfl (by kernel_rfl) (by decide) (fun K hK=>?_)
      refine goes_ Try.func24 (by kernel_rfl) rfl #[.agg #[.slice A0_0 l0_0.length c0_0]] (by rfl) rfl rfl lm_ ?_
      with_reducible refine (laws_toTree.calls k _ _ l0_0 t19 _ ?side1 ?side2 A22.out).mono ?_
      (case side1=>exact cc_ (Kd.C_below HR0_0.out HB.out))
      (case side2=>exact HC0_0.out)
      rintro e w74 ⟨v20,rfl,ho0,hb⟩
      refine ⟨_,rfl,?_⟩
      have n0_:=a0_ (Kd.R_elder' (rr_ HO6.out) (Kd.R_base ho0) hb)
      have n1_:=rb_ HO9 hb
      have n2_:=a0_ (Kd.R_elder' (rr_ HO13.out) (Kd.R_base ho0) hb)
      have n3_:=rb_ HO17 hb
      have n4_:=a0_ (Kd.R_lower (Kd.R_new' (Kd.R_new' ho0 (Kd.R_lt (rr_ HO6.out))) (Kd.R_lt (rr_ HO13.out))) (below_size hbw_))
      have n5_:=kb_ BK1 hb
      have n6_:=kb_ BK14 hb
      have n7_:=a0_ (below_step hbw_ hb)
      clear HO6
      clear HO9
      clear HO13
      clear HO17
      clear BK1
      clear BK14
      clear HB
      have HO6:=n0_
      have HO9:=n1_
      have HO13:=n2_
      have HO17:=n3_
      have HO21:=n4_
      have BK1:=n5_
      have BK14:=n6_
      have HB:=n7_
      clear n0_ n1_ n2_ n3_ n4_ n5_ n6_ n7_
      (try clear hb)
      (try clear hb2)
      (try clear hk)
      (try clear hi)
      (try clear ho0)
      obtain ⟨Ao75,co75,eo75⟩:=Kd.R_slice HO21.out
      (first | subst eo75 | (injection eo75 with f1_ f2_ f3_;have f4_:=f1_.symm;have f5_:=f3_.symm;clear f1_ f2_ f3_;subst f4_;subst f5_))
      refine hK.out _ _ ⟨(blk_cell BK14.out 0).trans rfl,(blk_cell BK1.out 0).trans rfl⟩ (fun hHeld=>?_)
      clear hK K
      refine norm_ (a':=?_) ?_ ?_
      rotate_left
      ·show Act.put _ (some 45) _ = _
       simp only [Act.put,s1_,s2_,s3_,i64_w,i32_w]
       rfl
      refine one_ (i:=3) (N:=some 46) #[true,true,true,true,false] rfl rfl (by kernel_rfl) (by decide) (fun K hK=>?_)
      refine goes_ Try.func27 (by kernel_rfl) rfl #[.agg #[.slice Ao66 t11.length co66],.agg #[.slice Ao75 t19.length co75]] (by rfl) rfl rfl lm_ ?_
      with_reducible refine (laws_eqTree.calls k _ _ t11 _ _ t19 true _ ?side1 ?side2 ?side3 ?side4 A23.out).mono ?_
      (case side1=>exact cc_ (Kd.R_reads' HO13.out).2.2)
      (case side2=>exact (Kd.R_reads' HO13.out).2.1)
      (case side3=>exact cc_ (Kd.R_reads' HO21.out).2.2)
      (case side4=>exact (Kd.R_reads' HO21.out).2.1)
      rintro e w76 ⟨rfl,hb⟩
      refine ⟨_,rfl,?_⟩
      have n0_:=rb_ HO6 hb
      have n1_:=rb_ HO9 hb
      have n2_:=rb_ HO13 hb
      have n3_:=rb_ HO17 hb
      have n4_:=rb_ HO21 hb
      have n5_:=kb_ BK1 hb
      have n6_:=kb_ BK14 hb
      have n7_:=a0_ (below_step hbw_ hb)
      clear HO6
      clear HO9
      clear HO13
      clear HO17
      clear HO21
      clear BK1
      clear BK14
      clear HB
      have HO6:=n0_
      have HO9:=n1_
      have HO13:=n2_
      have HO17:=n3_
      have HO21:=n4_
      have BK1:=n5_
      have BK14:=n6_
      have HB:=n7_
      clear n0_ n1_ n2_ n3_ n4_ n5_ n6_ n7_
      (try clear hb)
      (try clear hb2)
      (try clear hk)
      (try clear hi)
      refine hK.out _ _ ⟨(blk_cell BK14.out 0).trans rfl,(blk_cell BK1.out 0).trans rfl⟩ (fun hHeld=>?_)
      clear hK K
      refine norm_ (a':=?_) ?_ ?_
      rotate_left
      ·show Act.put _ (some 46) _ = _
       simp only [Act.put,s1_,s2_,s3_,i64_w,i32_w]
       rfl
      refine pure_ (i:=4) (N:=some 47) (v:=?_) (a':=?_) #[true,true,true,true,true] rfl rfl (by kernel_rfl) (fun _ _ _ h=>h) (Or.inl ⟨by rfl,?_⟩) ?_ ?_
      rotate_left
      ·intro w'
       go_simp
       with_reducible rfl
      rotate_left
      ·simp only [Act.put,s1_,s2_,s3_,i64_w,i32_w]
       rfl
      refine done_ (by kernel_rfl) ?_
      try go_wp2_with (first | ((with_reducible refine gate_callee (f:=25) rfl ?_);refine goesL_ (some 50) rfl rfl Try.func25 (by kernel_rfl) rfl #[.slice A1 l1.length c1] rfl lm_ ?_;(with_reducible refine (laws_toRangeS.calls k _ _ l1 t23 _ ?side1 ?side2 A25.out).mono ?_);(case side1=>exact cc_ (Kd.C_below HR1.out HB.out));(case side2=>exact HC1.out);rintro e w77 ⟨v24,rfl,ho0,hb⟩;refine ⟨_,rfl,?_⟩;have n0_:=rb_ HO6 hb;have n1_:=a0_ (Kd.R_elder' (rr_ HO9.out) (Kd.R_base ho0) hb);have n2_:=rb_ HO13 hb;have n3_:=a0_ (Kd.R_elder' (rr_ HO17.out) (Kd.R_base ho0) hb);have n4_:=rb_ HO21 hb;have n5_:=a0_ (Kd.R_lower (Kd.R_new' (Kd.R_new' ho0 (Kd.R_lt (rr_ HO9.out))) (Kd.R_lt (rr_ HO17.out))) (below_size hbw_));have n6_:=kb_ BK1 hb;have n7_:=kb_ BK14 hb;have n8_:=a0_ (below_step hbw_ hb);clear HO6 HO9;clear HO13 HO17;clear HO21 BK1;clear BK14 HB;have HO6:=n0_;have HO9:=n1_;have HO13:=n2_;have HO17:=n3_;have HO21:=n4_;have HO25:=n5_;have BK1:=n6_;have BK14:=n7_;have HB:=n8_;clear n0_ n1_ n2_ n3_ n4_ n5_ n6_ n7_ n8_;(try clear hb);(try clear ho0);obtain ⟨Ao78,co78,eo78⟩:=Kd.R_slice HO25.out;subst eo78) | ((with_reducible refine gate_callee (f:=28) rfl ?_);refine goesL_ (some 51) rfl rfl Try.func28 (by kernel_rfl) rfl #[.slice Ao71 t15.length co71,.slice Ao78 t23.length co78] rfl lm_ ?_;(with_reducible refine (laws_eqRangeS.calls k _ _ t15 _ _ t23 false _ ?side1 ?side2 ?side3 ?side4 A26.out).mono ?_);(case side1=>exact cc_ (Kd.R_reads' HO17.out).2.2);(case side2=>exact (Kd.R_reads' HO17.out).2.1);(case side3=>exact cc_ (Kd.R_reads' HO25.out).2.2);(case side4=>exact (Kd.R_reads' HO25.out).2.1);rintro e w79 ⟨rfl,hb⟩;refine ⟨_,rfl,?_⟩;replace HO6:=rb_ HO6 hb;replace HO9:=rb_ HO9 hb;replace HO13:=rb_ HO13 hb;replace HO17:=rb_ HO17 hb;replace HO21:=rb_ HO21 hb;replace HO25:=rb_ HO25 hb;replace BK1:=kb_ BK1 hb;replace BK14:=kb_ BK14 hb;replace HB:=a0_ (below_step hbw_ hb);(try clear hb);(try clear hb2);(try clear hk);(try clear hi)))
      go_ret
      exact ⟨by first | rfl | (simp [errW_none,errW_some] <;> rfl) | (simp [*,errW_none,errW_some] <;> rfl),hbw_⟩
    ·replace c24:=Bool.eq_false_iff.mpr c24
     subst c24
     have H1 : (some false) = some r:=by rw [if_neg (show ¬ (false = true) by decide)] at H;exact H
     clear H
     have H:=H1
     clear H1
     obtain rfl:=Option.some.inj H
     go_enter Try.func4,Try.ntmps4
     try go_wp2_with (first | ((with_reducible refine gate_dst (N:=4) rfl ?_);refine box_event ?hg (N:=4) ?hd (cs:=#[.slice A0_0 l0_0.length c0_0]) (t:=38) ?hr ?_;(case hd=>rfl);(case hg=>rfl);(case hr=>first | (go_simp;done) | (go_simp;rfl));intro gb1 hg w80 hbox hb;have BK1:=a0_ (hbox);have GW1:=a0_ ((by rw [hg];exact (below_size hbw_) : w.heap.size ≤ gb1));have GE1:=a0_ ((by rw [hg];exact (below_size hbw_) : w.heap.size ≤ gb1));replace HB:=a0_ (below_step hbw_ hb);clear hb hbox hg;have hcz81_0 : w80.cell? ⟨gb1,0,none⟩ = some (.slice A0_0 l0_0.length c0_0):=(blk_cell BK1.out 0).trans rfl;have hfz81_0:=blk_frozen BK1.out 0) | ((with_reducible refine gate_callee (f:=21) rfl ?_);refine goesL_ (some 16) rfl rfl Try.func21 (by kernel_rfl) rfl #[.agg #[.slice A0_0 l0_0.length c0_0],.int .i64 1048576] rfl lm_ ?_;(with_reducible refine (laws_szTree.calls k _ _ l0_0 1048576 t2 _ ?side1 ?side2 A5.out).mono ?_);(case side1=>exact cc_ (Kd.C_below HR0_0.out HB.out));(case side2=>exact HC0_0.out);rintro e w82 ⟨rfl,hb⟩;refine ⟨_,rfl,?_⟩;replace BK1:=kb_ BK1 hb;replace HB:=a0_ (below_step hbw_ hb);(try clear hb);(try clear hb2);(try clear hk);(try clear hi)) | ((with_reducible refine gate_callee (f:=22) rfl ?_);refine goesL_ (some 21) rfl rfl Try.func22 (by kernel_rfl) rfl #[.slice A1 l1.length c1,.int .i64 t2] rfl lm_ ?_;(with_reducible refine (laws_szRangeS.calls _ _ l1 t2 t3 _ ?side1 ?side2 A10.out).mono ?_);(case side1=>exact cc_ (Kd.C_below HR1.out HB.out));(case side2=>exact HC1.out);rintro e w' ⟨rfl,⟨nd,rfl⟩⟩;refine ⟨_,rfl,?_⟩;(try (rw [drewN_self w82];generalize hq_ : World.drewN w82 _ = w82;have n0_ : Aside0 (w82.heap[gb1]? = some (.cells #[.slice A0_0 l0_0.length c0_0] 38 (0,0))):=⟨by rw [← hq_];exact (bb_ BK1.out)⟩;have n1_ : Aside0 (Below w.heap.size w w82):=⟨by rw [← hq_];exact hbw_⟩;clear BK1 HB hq_;have BK1:=n0_;have HB:=n1_;clear n0_ n1_));have hcz83_0 : w82.cell? ⟨gb1,0,none⟩ = some (.slice A0_0 l0_0.length c0_0):=(blk_cell BK1.out 0).trans rfl;have hfz83_0:=blk_frozen BK1.out 0) | ((with_reducible refine gate_callee (f:=24) rfl ?_);refine goesL_ (some 25) rfl rfl Try.func24 (by kernel_rfl) rfl #[.agg #[.slice A0_0 l0_0.length c0_0]] rfl lm_ ?_;(with_reducible refine (laws_toTree.calls k _ _ l0_0 t4 _ ?side1 ?side2 A15.out).mono ?_);(case side1=>exact cc_ (Kd.C_below HR0_0.out HB.out));(case side2=>exact HC0_0.out);rintro e w84 ⟨v5,rfl,ho0,hb⟩;refine ⟨_,rfl,?_⟩;have HO6:=a0_ (Kd.R_lower ho0 (below_size hbw_));replace BK1:=kb_ BK1 hb;replace HB:=a0_ (below_step hbw_ hb);(try clear hb);(try clear ho0)) | ((with_reducible refine gate_callee (f:=25) rfl ?_);refine goesL_ (some 27) rfl rfl Try.func25 (by kernel_rfl) rfl #[.slice A1 l1.length c1] rfl lm_ ?_;(with_reducible refine (laws_toRangeS.calls k _ _ l1 t7 _ ?side1 ?side2 A16.out).mono ?_);(case side1=>exact cc_ (Kd.C_below HR1.out HB.out));(case side2=>exact HC1.out);rintro e w85 ⟨v8,rfl,ho0,hb⟩;refine ⟨_,rfl,?_⟩;replace HO6:=rb_ HO6 hb;have HO9:=a0_ (Kd.R_lower ho0 (below_size hbw_));replace BK1:=kb_ BK1 hb;replace HB:=a0_ (below_step hbw_ hb);(try clear hb);(try clear ho0);obtain ⟨Ao86,co86,eo86⟩:=Kd.R_slice HO6.out;subst eo86;obtain ⟨Ao87,co87,eo87⟩:=Kd.R_slice HO9.out;subst eo87) | ((with_reducible refine gate_callee (f:=23) rfl ?_);refine goesL_ (some 30) rfl rfl Try.func23 (by kernel_rfl) rfl #[.agg #[.slice Ao86 t4.length co86],.slice Ao87 t7.length co87,.int .i64 a2,.int .i64 a3] rfl lm_ ?_;(with_reducible refine (spec_LookUp.calls k _ _ t4 _ _ t7 a2 a3 t10 _ ?side1 ?side2 ?side3 ?side4 A17.out).mono ?_);(case side1=>exact cc_ (Kd.R_reads' HO6.out).2.2);(case side2=>exact (Kd.R_reads' HO6.out).2.1);(case side3=>exact cc_ (Kd.R_reads' HO9.out).2.2);(case side4=>exact (Kd.R_reads' HO9.out).2.1);rintro e w88 ⟨rfl,hb⟩;refine ⟨_,rfl,?_⟩;replace HO6:=rb_ HO6 hb;replace HO9:=rb_ HO9 hb;replace BK1:=kb_ BK1 hb;replace HB:=a0_ (below_step hbw_ hb);(try clear hb);have hcz89_0 : w88.cell? ⟨gb1,0,none⟩ = some (.slice A0_0 l0_0.length c0_0):=(blk_cell BK1.out 0).trans rfl;have hfz89_0:=blk_frozen BK1.out 0) | ((with_reducible refine gate_callee (f:=24) rfl ?_);refine goesL_ (some 32) rfl rfl Try.func24 (by kernel_rfl) rfl #[.agg #[.slice A0_0 l0_0.length c0_0]] rfl lm_ ?_;(with_reducible refine (laws_toTree.calls k _ _ l0_0 t11 _ ?side1 ?side2 A18.out).mono ?_);(case side1=>exact cc_ (Kd.C_below HR0_0.out HB.out));(case side2=>exact HC0_0.out);rintro e w90 ⟨v12,rfl,ho0,hb⟩;refine ⟨_,rfl,?_⟩;have n0_:=a0_ (Kd.R_elder' (rr_ HO6.out) (Kd.R_base ho0) hb);have n1_:=rb_ HO9 hb;have n2_:=a0_ (Kd.R_lower (Kd.R_new' ho0 (Kd.R_lt (rr_ HO6.out))) (below_size hbw_));have n3_:=kb_ BK1 hb;have n4_:=a0_ (below_step hbw_ hb);clear HO6 HO9;clear BK1 HB;have HO6:=n0_;have HO9:=n1_;have HO13:=n2_;have BK1:=n3_;have HB:=n4_;clear n0_ n1_ n2_ n3_ n4_;(try clear hb);(try clear ho0)) | ((with_reducible refine gate_dst (N:=11) rfl ?_);refine box_event ?hg (N:=11) ?hd (cs:=#[.slice none 0 0]) (t:=25) ?hr ?_;(case hd=>rfl);(case hg=>rfl);(case hr=>first | (go_simp;done) | (go_simp;rfl));intro gb14 hg w91 hbox hb;have n0_:=rb_ HO6 hb;have n1_:=rb_ HO9 hb;have n2_:=rb_ HO13 hb;have n3_:=kb_ BK1 hb;have n4_:=a0_ (below_step hbw_ hb);have n5_:=a0_ (hbox);have n6_:=a0_ ((by rw [hg];exact (below_size hbw_) : w.heap.size ≤ gb14));have n7_:=a0_ ((by rw [hg];exact (below_size hbw_) : w.heap.size ≤ gb14));have n8_:=a0_ ((by rw [hg];exact Nat.ne_of_lt (blk_lt (bb_ BK1.out)) : gb1 ≠ gb14));have n9_:=a0_ ((by rw [hg];exact Nat.ne_of_gt (blk_lt (bb_ BK1.out)) : gb14 ≠ gb1));clear HO6 HO9;clear HO13 BK1 HB;have HO6:=n0_;have HO9:=n1_;have HO13:=n2_;have BK1:=n3_;have HB:=n4_;have BK14:=n5_;have GW14:=n6_;have GE14:=n7_;have NB1_14:=n8_;have NB14_1:=n9_;clear n0_ n1_ n2_ n3_ n4_ n5_ n6_ n7_ n8_ n9_;clear hb hbox hg;obtain ⟨Ao92,co92,eo92⟩:=Kd.R_slice HO13.out;subst eo92;have hnb93:=NB14_1.out;have hnc93:=NB1_14.out;have hcz94_0 : w91.cell? ⟨gb14,0,none⟩ = some (.slice none 0 0):=(blk_cell BK14.out 0).trans rfl;have hfz94_0:=blk_frozen BK14.out 0) | ((with_reducible refine gate_callee (f:=25) rfl ?_);refine goesL_ (some 34) rfl rfl Try.func25 (by kernel_rfl) rfl #[.slice A1 l1.length c1] rfl lm_ ?_;(with_reducible refine (laws_toRangeS.calls k _ _ l1 t15 _ ?side1 ?side2 A19.out).mono ?_);(case side1=>exact Kd.C_below HR1.out hbw_);(case side2=>exact HC1.out);rintro e w95 ⟨v16,rfl,ho0,hb⟩;refine ⟨_,rfl,?_⟩;have n0_:=a0_ (Kd.R_below (by (with_reducible repeat (first | apply Kd.R_alloc | apply Kd.R_drewN | apply Kd.R_drew));exact (Kd.R_mono (Kd.R_far (p:=⟨gb14,0,none⟩) (Kd.R_types HO6.out BK14.out (by decide)) (fun _ hk=>hk.2) (.slice Ao92 t11.length co92)) (fun _ h_=>h_.1))) hb);have n1_:=a0_ (Kd.R_elder' (by (with_reducible repeat (first | apply Kd.R_alloc | apply Kd.R_drewN | apply Kd.R_drew));exact (Kd.R_mono (Kd.R_far (p:=⟨gb14,0,none⟩) (Kd.R_types HO9.out BK14.out (by decide)) (fun _ hk=>hk.2) (.slice Ao92 t11.length co92)) (fun _ h_=>h_.1))) (Kd.R_base ho0) hb);have n2_:=a0_ (Kd.R_below (by (with_reducible repeat (first | apply Kd.R_alloc | apply Kd.R_drewN | apply Kd.R_drew));exact (Kd.R_mono (Kd.R_far (p:=⟨gb14,0,none⟩) (Kd.R_types HO13.out BK14.out (by decide)) (fun _ hk=>hk.2) (.slice Ao92 t11.length co92)) (fun _ h_=>h_.1))) hb);have n3_:=a0_ (Kd.R_lower (Kd.R_new' ho0 (Kd.R_lt (by (with_reducible repeat (first | apply Kd.R_alloc | apply Kd.R_drewN | apply Kd.R_drew));exact (Kd.R_mono (Kd.R_far (p:=⟨gb14,0,none⟩) (Kd.R_types HO9.out BK14.out (by decide)) (fun _ hk=>hk.2) (.slice Ao92 t11.length co92)) (fun _ h_=>h_.1))))) (below_size hbw_));have n4_:=kf_ BK1 NB1_14 hb;have n5_:=a0_ (blk_below (g:=gb14) (o:=.cells #[.slice Ao92 t11.length co92] 25 (0,0)) (by (with_reducible repeat (first | refine blk_drewN ?_ _ | refine blk_drew ?_ | refine blk_alloc ?_ _));refine blk_put (cs:=#[.slice none 0 0]) ?_ 0 _ rfl;(with_reducible repeat (first | refine blk_drewN ?_ _ | refine blk_drew ?_ | refine blk_alloc ?_ _));exact BK14.out) hb);have n6_:=a0_ (below_step hbw_ hb);clear HO6 HO9;clear HO13 BK1;clear BK14 HB;have HO6:=n0_;have HO9:=n1_;have HO13:=n2_;have HO17:=n3_;have BK1:=n4_;have BK14:=n5_;have HB:=n6_;clear n0_ n1_ n2_ n3_ n4_ n5_ n6_;(try clear hb);(try clear ho0);have hcz96_0 : w95.cell? ⟨gb14,0,none⟩ = some (.slice Ao92 t11.length co92):=(blk_cell BK14.out 0).trans rfl;have hfz96_0:=blk_frozen BK14.out 0;obtain ⟨Ao97,co97,eo97⟩:=Kd.R_slice HO17.out;subst eo97) | ((with_reducible refine gate_callee (f:=26) rfl ?_);refine goesL_ (some 39) rfl rfl Try.func26 (by kernel_rfl) rfl #[.agg #[.slice Ao92 t11.length co92],.slice Ao97 t15.length co97,.int .i64 a2,.int .i64 a3] rfl lm_ ?_;(with_reducible refine (impl_LookUp.calls _ _ t11 _ _ t15 a2 a3 t18 _ ?side1 ?side2 ?side3 ?side4 A20.out).mono ?_);(case side1=>exact cc_ (Kd.R_reads' HO13.out).2.2);(case side2=>exact (Kd.R_reads' HO13.out).2.1);(case side3=>exact cc_ (Kd.R_reads' HO17.out).2.2);(case side4=>exact (Kd.R_reads' HO17.out).2.1);rintro e w98 ⟨rfl,hb⟩;refine ⟨_,rfl,?_⟩;replace HO6:=rb_ HO6 hb;replace HO9:=rb_ HO9 hb;replace HO13:=rb_ HO13 hb;replace HO17:=rb_ HO17 hb;replace BK1:=kb_ BK1 hb;replace BK14:=kb_ BK14 hb;replace HB:=a0_ (below_step hbw_ hb);(try clear hb);(try clear hb2);(try clear hk);(try clear hi)))
     have n0_:=a0_ (Kd.R_drew HO6.out)
     have n1_:=a0_ (Kd.R_drew HO9.out)
     have n2_:=a0_ (Kd.R_drew HO13.out)
     have n3_:=a0_ (Kd.R_drew HO17.out)
     have n4_:=a0_ (blk_drew BK1.out)
     have n5_:=a0_ (blk_drew BK14.out)
     have n6_:=a0_ (below_drew1 HB.out)
     clear HO6
     clear HO9
     clear HO13
     clear HO17
     clear BK1
     clear BK14
     clear HB
     have HO6:=n0_
     have HO9:=n1_
     have HO13:=n2_
     have HO17:=n3_
     have BK1:=n4_
     have BK14:=n5_
     have HB:=n6_
     clear n0_ n1_ n2_ n3_ n4_ n5_ n6_
     refine start_ (n:=5) (S:=fun w'=>w'.cell? ⟨gb14,0,none⟩ = some (.slice Ao92 t11.length co92) ∧ w'.cell? ⟨gb1,0,none⟩ = some (.slice A0_0 l0_0.length c0_0)) (ds:=[]) #[false,false,false,false,false] (by kernel_rfl) rfl rfl ⟨(blk_cell BK14.out 0).trans rfl,(blk_cell BK1.out 0).trans rfl⟩ (fun hHeld=>?_)
     generalize w98.drew = w99 at HO6 HO9 HO13 HO17 BK1 BK14 HB hHeld ⊢
     refine take_ (i:=0) (N:=some 43) (v:=?_) (a':=?_) #[true,false,false,false,false] rfl rfl (by kernel_rfl) (fun _ _ _ h=>h) (Or.inl ⟨by rfl,?_⟩) hHeld ?_ ?_
     rotate_left
     ·rintro w' ⟨s0,s1⟩
      go_simp
      with_reducible rfl
     rotate_left
     ·simp only [Act.put,s1_,s2_,s3_,i64_w,i32_w]
      rfl
     refine take_ (i:=1) (N:=some 44) (v:=?_) (a':=?_) #[true,true,false,false,false] rfl rfl (by kernel_rfl) (fun _ _ _ h=>h) (Or.inl ⟨by rfl,?_⟩) hHeld ?_ ?_
     rotate_left
     ·rintro w' ⟨s0,s1⟩
      go_simp
      with_reducible rfl
     rotate_left
     ·simp only [Act.put,s1_,s2_,s3_,i64_w,i32_w]
      rfl
     refine one_ (i:=2) (N:=some 45) #[true,true,true,false,false] rfl rfl (by kernel_rfl) (by decide) (fun K hK=>?_)
     refine goes_ Try.func24 (by kernel_rfl) rfl #[.agg #[.slice A0_0 l0_0.length c0_0]] (by rfl) rfl rfl lm_ ?_
     with_reducible refine (laws_toTree.calls k _ _ l0_0 t19 _ ?side1 ?side2 A22.out).mono ?_
     (case side1=>exact cc_ (Kd.C_below HR0_0.out HB.out))
     (case side2=>exact HC0_0.out)
     rintro e w100 ⟨v20,rfl,ho0,hb⟩
     refine ⟨_,rfl,?_⟩
     have n0_:=a0_ (Kd.R_elder' (rr_ HO6.out) (Kd.R_base ho0) hb)
     have n1_:=rb_ HO9 hb
     have n2_:=a0_ (Kd.R_elder' (rr_ HO13.out) (Kd.R_base ho0) hb)
     have n3_:=rb_ HO17 hb
     have n4_:=a0_ (Kd.R_lower (Kd.R_new' (Kd.R_new' ho0 (Kd.R_lt (rr_ HO6.out))) (Kd.R_lt (rr_ HO13.out))) (below_size hbw_))
     have n5_:=kb_ BK1 hb
     have n6_:=kb_ BK14 hb
     have n7_:=a0_ (below_step hbw_ hb)
     clear HO6
     clear HO9
     clear HO13
     clear HO17
     clear BK1
     clear BK14
     clear HB
     have HO6:=n0_
     have HO9:=n1_
     have HO13:=n2_
     have HO17:=n3_
     have HO21:=n4_
     have BK1:=n5_
     have BK14:=n6_
     have HB:=n7_
     clear n0_ n1_ n2_ n3_ n4_ n5_ n6_ n7_
     (try clear hb)
     (try clear hb2)
     (try clear hk)
     (try clear hi)
     (try clear ho0)
     obtain ⟨Ao101,co101,eo101⟩:=Kd.R_slice HO21.out
     (first | subst eo101 | (injection eo101 with f1_ f2_ f3_;have f4_:=f1_.symm;have f5_:=f3_.symm;clear f1_ f2_ f3_;subst f4_;subst f5_))
     refine hK.out _ _ ⟨(blk_cell BK14.out 0).trans rfl,(blk_cell BK1.out 0).trans rfl⟩ (fun hHeld=>?_)
     clear hK K
     refine norm_ (a':=?_) ?_ ?_
     rotate_left
     ·show Act.put _ (some 45) _ = _
      simp only [Act.put,s1_,s2_,s3_,i64_w,i32_w]
      rfl
     refine one_ (i:=3) (N:=some 46) #[true,true,true,true,false] rfl rfl (by kernel_rfl) (by decide) (fun K hK=>?_)
     refine goes_ Try.func27 (by kernel_rfl) rfl #[.agg #[.slice Ao92 t11.length co92],.agg #[.slice Ao101 t19.length co101]] (by rfl) rfl rfl lm_ ?_
     with_reducible refine (laws_eqTree.calls k _ _ t11 _ _ t19 false _ ?side1 ?side2 ?side3 ?side4 A23.out).mono ?_
     (case side1=>exact cc_ (Kd.R_reads' HO13.out).2.2)
     (case side2=>exact (Kd.R_reads' HO13.out).2.1)
     (case side3=>exact cc_ (Kd.R_reads' HO21.out).2.2)
     (case side4=>exact (Kd.R_reads' HO21.out).2.1)
     rintro e w102 ⟨rfl,hb⟩
     refine ⟨_,rfl,?_⟩
     have n0_:=rb_ HO6 hb
     have n1_:=rb_ HO9 hb
     have n2_:=rb_ HO13 hb
     have n3_:=rb_ HO17 hb
     have n4_:=rb_ HO21 hb
     have n5_:=kb_ BK1 hb
     have n6_:=kb_ BK14 hb
     have n7_:=a0_ (below_step hbw_ hb)
     clear HO6
     clear HO9
     clear HO13
     clear HO17
     clear HO21
     clear BK1
     clear BK14
     clear HB
     have HO6:=n0_
     have HO9:=n1_
     have HO13:=n2_
     have HO17:=n3_
     have HO21:=n4_
     have BK1:=n5_
     have BK14:=n6_
     have HB:=n7_
     clear n0_ n1_ n2_ n3_ n4_ n5_ n6_ n7_
     (try clear hb)
     (try clear hb2)
     (try clear hk)
     (try clear hi)
     refine hK.out _ _ ⟨(blk_cell BK14.out 0).trans rfl,(blk_cell BK1.out 0).trans rfl⟩ (fun hHeld=>?_)
     clear hK K
     refine norm_ (a':=?_) ?_ ?_
     rotate_left
     ·show Act.put _ (some 46) _ = _
      simp only [Act.put,s1_,s2_,s3_,i64_w,i32_w]
      rfl
     refine pure_ (i:=4) (N:=some 47) (v:=?_) (a':=?_) #[true,true,true,true,true] rfl rfl (by kernel_rfl) (fun _ _ _ h=>h) (Or.inl ⟨by rfl,?_⟩) ?_ ?_
     rotate_left
     ·intro w'
      go_simp
      with_reducible rfl
     rotate_left
     ·simp only [Act.put,s1_,s2_,s3_,i64_w,i32_w]
      rfl
     refine done_ (by kernel_rfl) ?_
     try go_wp2
     go_ret
     exact ⟨by first | rfl | (simp [errW_none,errW_some] <;> rfl) | (simp [*,errW_none,errW_some] <;> rfl),hbw_⟩
   ·rw [if_neg c21] at H
    have c21b0 : (t18 == t10) = false:=beq_eq_false_iff_ne.mpr c21
    have c21b1 : (t18 != t10) = true:=bne_iff_ne.mpr c21
    obtain rfl:=Option.some.inj H
    go_enter Try.func4,Try.ntmps4
    go_wp2_with (first | ((with_reducible refine gate_dst (N:=4) rfl ?_);refine box_event ?hg (N:=4) ?hd (cs:=#[.slice A0_0 l0_0.length c0_0]) (t:=38) ?hr ?_;(case hd=>rfl);(case hg=>rfl);(case hr=>first | (go_simp;done) | (go_simp;rfl));intro gb1 hg w103 hbox hb;have BK1:=a0_ (hbox);have GW1:=a0_ ((by rw [hg];exact (below_size hbw_) : w.heap.size ≤ gb1));have GE1:=a0_ ((by rw [hg];exact (below_size hbw_) : w.heap.size ≤ gb1));replace HB:=a0_ (below_step hbw_ hb);clear hb hbox hg;have hcz104_0 : w103.cell? ⟨gb1,0,none⟩ = some (.slice A0_0 l0_0.length c0_0):=(blk_cell BK1.out 0).trans rfl;have hfz104_0:=blk_frozen BK1.out 0) | ((with_reducible refine gate_callee (f:=21) rfl ?_);refine goesL_ (some 16) rfl rfl Try.func21 (by kernel_rfl) rfl #[.agg #[.slice A0_0 l0_0.length c0_0],.int .i64 1048576] rfl lm_ ?_;(with_reducible refine (laws_szTree.calls k _ _ l0_0 1048576 t2 _ ?side1 ?side2 A5.out).mono ?_);(case side1=>exact cc_ (Kd.C_below HR0_0.out HB.out));(case side2=>exact HC0_0.out);rintro e w105 ⟨rfl,hb⟩;refine ⟨_,rfl,?_⟩;replace BK1:=kb_ BK1 hb;replace HB:=a0_ (below_step hbw_ hb);(try clear hb);(try clear hb2);(try clear hk);(try clear hi)) | ((with_reducible refine gate_callee (f:=22) rfl ?_);refine goesL_ (some 21) rfl rfl Try.func22 (by kernel_rfl) rfl #[.slice A1 l1.length c1,.int .i64 t2] rfl lm_ ?_;(with_reducible refine (laws_szRangeS.calls _ _ l1 t2 t3 _ ?side1 ?side2 A10.out).mono ?_);(case side1=>exact cc_ (Kd.C_below HR1.out HB.out));(case side2=>exact HC1.out);rintro e w' ⟨rfl,⟨nd,rfl⟩⟩;refine ⟨_,rfl,?_⟩;(try (rw [drewN_self w105];generalize hq_ : World.drewN w105 _ = w105;have n0_ : Aside0 (w105.heap[gb1]? = some (.cells #[.slice A0_0 l0_0.length c0_0] 38 (0,0))):=⟨by rw [← hq_];exact (bb_ BK1.out)⟩;have n1_ : Aside0 (Below w.heap.size w w105):=⟨by rw [← hq_];exact hbw_⟩;clear BK1 HB hq_;have BK1:=n0_;have HB:=n1_;clear n0_ n1_));have hcz106_0 : w105.cell? ⟨gb1,0,none⟩ = some (.slice A0_0 l0_0.length c0_0):=(blk_cell BK1.out 0).trans rfl;have hfz106_0:=blk_frozen BK1.out 0) | ((with_reducible refine gate_callee (f:=24) rfl ?_);refine goesL_ (some 25) rfl rfl Try.func24 (by kernel_rfl) rfl #[.agg #[.slice A0_0 l0_0.length c0_0]] rfl lm_ ?_;(with_reducible refine (laws_toTree.calls k _ _ l0_0 t4 _ ?side1 ?side2 A15.out).mono ?_);(case side1=>exact cc_ (Kd.C_below HR0_0.out HB.out));(case side2=>exact HC0_0.out);rintro e w107 ⟨v5,rfl,ho0,hb⟩;refine ⟨_,rfl,?_⟩;have HO6:=a0_ (Kd.R_lower ho0 (below_size hbw_));replace BK1:=kb_ BK1 hb;replace HB:=a0_ (below_step hbw_ hb);(try clear hb);(try clear ho0)) | ((with_reducible refine gate_callee (f:=25) rfl ?_);refine goesL_ (some 27) rfl rfl Try.func25 (by kernel_rfl) rfl #[.slice A1 l1.length c1] rfl lm_ ?_;(with_reducible refine (laws_toRangeS.calls k _ _ l1 t7 _ ?side1 ?side2 A16.out).mono ?_);(case side1=>exact cc_ (Kd.C_below HR1.out HB.out));(case side2=>exact HC1.out);rintro e w108 ⟨v8,rfl,ho0,hb⟩;refine ⟨_,rfl,?_⟩;replace HO6:=rb_ HO6 hb;have HO9:=a0_ (Kd.R_lower ho0 (below_size hbw_));replace BK1:=kb_ BK1 hb;replace HB:=a0_ (below_step hbw_ hb);(try clear hb);(try clear ho0);obtain ⟨Ao109,co109,eo109⟩:=Kd.R_slice HO6.out;subst eo109;obtain ⟨Ao110,co110,eo110⟩:=Kd.R_slice HO9.out;subst eo110) | ((with_reducible refine gate_callee (f:=23) rfl ?_);refine goesL_ (some 30) rfl rfl Try.func23 (by kernel_rfl) rfl #[.agg #[.slice Ao109 t4.length co109],.slice Ao110 t7.length co110,.int .i64 a2,.int .i64 a3] rfl lm_ ?_;(with_reducible refine (spec_LookUp.calls k _ _ t4 _ _ t7 a2 a3 t10 _ ?side1 ?side2 ?side3 ?side4 A17.out).mono ?_);(case side1=>exact cc_ (Kd.R_reads' HO6.out).2.2);(case side2=>exact (Kd.R_reads' HO6.out).2.1);(case side3=>exact cc_ (Kd.R_reads' HO9.out).2.2);(case side4=>exact (Kd.R_reads' HO9.out).2.1);rintro e w111 ⟨rfl,hb⟩;refine ⟨_,rfl,?_⟩;replace HO6:=rb_ HO6 hb;replace HO9:=rb_ HO9 hb;replace BK1:=kb_ BK1 hb;replace HB:=a0_ (below_step hbw_ hb);(try clear hb);have hcz112_0 : w111.cell? ⟨gb1,0,none⟩ = some (.slice A0_0 l0_0.length c0_0):=(blk_cell BK1.out 0).trans rfl;have hfz112_0:=blk_frozen BK1.out 0) | ((with_reducible refine gate_callee (f:=24) rfl ?_);refine goesL_ (some 32) rfl rfl Try.func24 (by kernel_rfl) rfl #[.agg #[.slice A0_0 l0_0.length c0_0]] rfl lm_ ?_;(with_reducible refine (laws_toTree.calls k _ _ l0_0 t11 _ ?side1 ?side2 A18.out).mono ?_);(case side1=>exact cc_ (Kd.C_below HR0_0.out HB.out));(case side2=>exact HC0_0.out);rintro e w113 ⟨v12,rfl,ho0,hb⟩;refine ⟨_,rfl,?_⟩;have n0_:=a0_ (Kd.R_elder' (rr_ HO6.out) (Kd.R_base ho0) hb);have n1_:=rb_ HO9 hb;have n2_:=a0_ (Kd.R_lower (Kd.R_new' ho0 (Kd.R_lt (rr_ HO6.out))) (below_size hbw_));have n3_:=kb_ BK1 hb;have n4_:=a0_ (below_step hbw_ hb);clear HO6 HO9;clear BK1 HB;have HO6:=n0_;have HO9:=n1_;have HO13:=n2_;have BK1:=n3_;have HB:=n4_;clear n0_ n1_ n2_ n3_ n4_;(try clear hb);(try clear ho0)) | ((with_reducible refine gate_dst (N:=11) rfl ?_);refine box_event ?hg (N:=11) ?hd (cs:=#[.slice none 0 0]) (t:=25) ?hr ?_;(case hd=>rfl);(case hg=>rfl);(case hr=>first | (go_simp;done) | (go_simp;rfl));intro gb14 hg w114 hbox hb;have n0_:=rb_ HO6 hb;have n1_:=rb_ HO9 hb;have n2_:=rb_ HO13 hb;have n3_:=kb_ BK1 hb;have n4_:=a0_ (below_step hbw_ hb);have n5_:=a0_ (hbox);have n6_:=a0_ ((by rw [hg];exact (below_size hbw_) : w.heap.size ≤ gb14));have n7_:=a0_ ((by rw [hg];exact (below_size hbw_) : w.heap.size ≤ gb14));have n8_:=a0_ ((by rw [hg];exact Nat.ne_of_lt (blk_lt (bb_ BK1.out)) : gb1 ≠ gb14));have n9_:=a0_ ((by rw [hg];exact Nat.ne_of_gt (blk_lt (bb_ BK1.out)) : gb14 ≠ gb1));clear HO6 HO9;clear HO13 BK1 HB;have HO6:=n0_;have HO9:=n1_;have HO13:=n2_;have BK1:=n3_;have HB:=n4_;have BK14:=n5_;have GW14:=n6_;have GE14:=n7_;have NB1_14:=n8_;have NB14_1:=n9_;clear n0_ n1_ n2_ n3_ n4_ n5_ n6_ n7_ n8_ n9_;clear hb hbox hg;obtain ⟨Ao115,co115,eo115⟩:=Kd.R_slice HO13.out;subst eo115;have hnb116:=NB14_1.out;have hnc116:=NB1_14.out;have hcz117_0 : w114.cell? ⟨gb14,0,none⟩ = some (.slice none 0 0):=(blk_cell BK14.out 0).trans rfl;have hfz117_0:=blk_frozen BK14.out 0) | ((with_reducible refine gate_callee (f:=25) rfl ?_);refine goesL_ (some 34) rfl rfl Try.func25 (by kernel_rfl) rfl #[.slice A1 l1.length c1] rfl lm_ ?_;(with_reducible refine (laws_toRangeS.calls k _ _ l1 t15 _ ?side1 ?side2 A19.out).mono ?_);(case side1=>exact Kd.C_below HR1.out hbw_);(case side2=>exact HC1.out);rintro e w118 ⟨v16,rfl,ho0,hb⟩;refine ⟨_,rfl,?_⟩;have n0_:=a0_ (Kd.R_below (by (with_reducible repeat (first | apply Kd.R_alloc | apply Kd.R_drewN | apply Kd.R_drew));exact (Kd.R_mono (Kd.R_far (p:=⟨gb14,0,none⟩) (Kd.R_types HO6.out BK14.out (by decide)) (fun _ hk=>hk.2) (.slice Ao115 t11.length co115)) (fun _ h_=>h_.1))) hb);have n1_:=a0_ (Kd.R_elder' (by (with_reducible repeat (first | apply Kd.R_alloc | apply Kd.R_drewN | apply Kd.R_drew));exact (Kd.R_mono (Kd.R_far (p:=⟨gb14,0,none⟩) (Kd.R_types HO9.out BK14.out (by decide)) (fun _ hk=>hk.2) (.slice Ao115 t11.length co115)) (fun _ h_=>h_.1))) (Kd.R_base ho0) hb);have n2_:=a0_ (Kd.R_below (by (with_reducible repeat (first | apply Kd.R_alloc | apply Kd.R_drewN | apply Kd.R_drew));exact (Kd.R_mono (Kd.R_far (p:=⟨gb14,0,none⟩) (Kd.R_types HO13.out BK14.out (by decide)) (fun _ hk=>hk.2) (.slice Ao115 t11.length co115)) (fun _ h_=>h_.1))) hb);have n3_:=a0_ (Kd.R_lower (Kd.R_new' ho0 (Kd.R_lt (by (with_reducible repeat (first | apply Kd.R_alloc | apply Kd.R_drewN | apply Kd.R_drew));exact (Kd.R_mono (Kd.R_far (p:=⟨gb14,0,none⟩) (Kd.R_types HO9.out BK14.out (by decide)) (fun _ hk=>hk.2) (.slice Ao115 t11.length co115)) (fun _ h_=>h_.1))))) (below_size hbw_));have n4_:=kf_ BK1 NB1_14 hb;have n5_:=a0_ (blk_below (g:=gb14) (o:=.cells #[.slice Ao115 t11.length co115] 25 (0,0)) (by (with_reducible repeat (first | refine blk_drewN ?_ _ | refine blk_drew ?_ | refine blk_alloc ?_ _));refine blk_put (cs:=#[.slice none 0 0]) ?_ 0 _ rfl;(with_reducible repeat (first | refine blk_drewN ?_ _ | refine blk_drew ?_ | refine blk_alloc ?_ _));exact BK14.out) hb);have n6_:=a0_ (below_step hbw_ hb);clear HO6 HO9;clear HO13 BK1;clear BK14 HB;have HO6:=n0_;have HO9:=n1_;have HO13:=n2_;have HO17:=n3_;have BK1:=n4_;have BK14:=n5_;have HB:=n6_;clear n0_ n1_ n2_ n3_ n4_ n5_ n6_;(try clear hb);(try clear ho0);have hcz119_0 : w118.cell? ⟨gb14,0,none⟩ = some (.slice Ao115 t11.length co115):=(blk_cell BK14.out 0).trans rfl;have hfz119_0:=blk_frozen BK14.out 0;obtain ⟨Ao120,co120,eo120⟩:=Kd.R_slice HO17.out;subst eo120) | ((with_reducible refine gate_callee (f:=26) rfl ?_);refine goesL_ (some 39) rfl rfl Try.func26 (by kernel_rfl) rfl #[.agg #[.slice Ao115 t11.length co115],.slice Ao120 t15.length co120,.int .i64 a2,.int .i64 a3] rfl lm_ ?_;(with_reducible refine (impl_LookUp.calls _ _ t11 _ _ t15 a2 a3 t18 _ ?side1 ?side2 ?side3 ?side4 A20.out).mono ?_);(case side1=>exact cc_ (Kd.R_reads' HO13.out).2.2);(case side2=>exact (Kd.R_reads' HO13.out).2.1);(case side3=>exact cc_ (Kd.R_reads' HO17.out).2.2);(case side4=>exact (Kd.R_reads' HO17.out).2.1);rintro e w121 ⟨rfl,hb⟩;refine ⟨_,rfl,?_⟩;replace HO6:=rb_ HO6 hb;replace HO9:=rb_ HO9 hb;replace HO13:=rb_ HO13 hb;replace HO17:=rb_ HO17 hb;replace BK1:=kb_ BK1 hb;replace BK14:=kb_ BK14 hb;replace HB:=a0_ (below_step hbw_ hb);(try clear hb);(try clear hb2);(try clear hk);(try clear hi)))
    go_ret
    exact ⟨by first | rfl | (simp [errW_none,errW_some] <;> rfl) | (simp [*,errW_none,errW_some] <;> rfl),hbw_⟩
end Go.Proofs.Ytacgehaipacehaa.P
namespace Go.Proofs.Ytacgehaipacehaa.Pure
open Go.RowKit Go.Proofs.Ytacgehaipacehaa.P
set_option linter.unusedVariables false
theorem FnExactLookUp (l0_0 : List S153) (l1 : List S99) (a2 : Int) (a3 : Int) (G0_0 : (l0_0.length ≤ maxLen ∧ ∀ x ∈ l0_0,(x.f0.size ≤ maxLen ∧ (Lit.int .i64 x.f1).wf = true))) (g1 : (l1.length ≤ maxLen ∧ ∀ x ∈ l1,((Lit.int .i64 x.f0).wf = true ∧ (Lit.int .i64 x.f1).wf = true ∧ (Lit.int .i64 x.f2).wf = true ∧ (Lit.int .i64 x.f3).wf = true))) (w2 : (Lit.int .i64 a2).wf = true) (w3 : (Lit.int .i64 a3).wf = true) : ∃ k,laws_FnExactLookUp.f k l0_0 l1 a2 a3 = some true:=by
 have hmax : maxLen = 9223372036854775807:=by decide
 rw [hmax] at G0_0 g1
 refine Ev.out (F:=fun k=>laws_FnExactLookUp.f k l0_0 l1 a2 a3) ?_
 unfold laws_FnExactLookUp.f
 obtain ⟨v0,hv0,hg0⟩:=laws_szTree_ev l0_0 1048576 (by omega) (by omega) G0_0.1 (fun x hx=>(G0_0.2 x hx).1)
 refine Ev.bind hv0 ?_
 by_cases hn0 : v0 < 0
 ·exact Ev.pos hn0 (Ev.const rfl)
 refine Ev.neg hn0 ?_
 obtain ⟨hva0,hl0,hs⟩:=hg0 (by omega)
 obtain ⟨v1,hv1,hg1⟩:=laws_szRangeS_ev l1 v0 (by omega) (by omega) g1.1
 refine Ev.bind hv1 ?_
 by_cases hn1 : v1 < 0
 ·exact Ev.pos hn1 (Ev.const rfl)
 refine Ev.neg hn1 ?_
 obtain ⟨hva1,hl1⟩:=hg1 (by omega)
 have hT0:=laws_toTree_ev l0_0 (by omega)
 have hm0 : (l0_0.map toC).length ≤ 1048576:=by rw [List.length_map];omega
 have hT1:=laws_toRangeS_ev l1 (by omega)
 have hm1 : (l1.map toRange).length ≤ 1048576:=by rw [List.length_map];omega
 have hsm:=smT_of hs
 have hS : Ev (fun k=>spec_LookUp.f k (l0_0.map toC) (l1.map toRange) a2 a3) (lkP (l0_0.map toC) (l1.map toRange) a2 a3):=spec_LookUp_ev (l0_0.map toC) (l1.map toRange) a2 a3 hsm (by omega) (by omega)
 have hG : Ev (fun k=>impl_LookUp.f (l0_0.map toC) (l1.map toRange) a2 a3) (lkP (l0_0.map toC) (l1.map toRange) a2 a3):=Ev.const (impl_LookUp_ev (l0_0.map toC) (l1.map toRange) a2 a3 hsm (by omega))
 generalize lkP (l0_0.map toC) (l1.map toRange) a2 a3 = r at hS hG
 refine Ev.bind hT0 (Ev.bind hT1 (Ev.bind hS (Ev.bind hT0 (Ev.bind hT1 (Ev.bind hG (Ev.pos rfl ?_))))))
 exact Ev.bind hT0 (Ev.bind (laws_eqTree_ev _ (by omega)) (Ev.pos rfl (Ev.bind hT1 (Ev.bind (laws_eqRangeS_ev _ (by omega)) (Ev.pos rfl (Ev.const rfl))))))
end Go.Proofs.Ytacgehaipacehaa.Pure
