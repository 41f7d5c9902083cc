/- Texts under the proof of FnExactValidHeap: helper words, the functions' contracts and the plain laws. No condition. -/
import Derived.Test.YtfhcfhffmblacaaQFnExactValidHeapa
import Derived.Test.YtfhcfhffmblacaaQFnExactValidHeapb
import Derived.Test.YtfhcfhffmblacaaQFnExactValidHeapc
namespace Go.Proofs.Ytfhcfhffmblacaa.P
open Go.RowKit Go.Proofs.YtfhcfhffmblacaaW.PrintWords Go.Proofs.YtfhcfhffmblacaaW.PrintLast Go.Proofs.YtfhcfhffmblacaaW.PrintMore
attribute [local go_sem] max2_int min2_int max_two min_two max_three min_three max_four min_four
set_option linter.unusedVariables false
set_option linter.unusedSimpArgs false
def laws_FnExactValidHeap.f (k : Nat) (l0_0 : List (S103)) (l1_0 : List (S109)) : Option (Bool):=(laws_szTree.f k l0_0 1048576).bind fun t3=>(if t3 < 0 then (some true) else ((laws_szHeap.f l1_0 t3).bind fun t4=>(if t4 < 0 then (some true) else ((laws_toTree.f k l0_0).bind fun t5=>((laws_toHeap.f k l1_0).bind fun t8=>((spec_ValidHeap.f k t5 t8).bind fun t11=>((laws_toTree.f k l0_0).bind fun t12=>((laws_toHeap.f k l1_0).bind fun t16=>((impl_ValidHeap.f t12 t16).bind fun t20=>(if (t20 != t11) = true then (some false) else ((laws_toTree.f k l0_0).bind fun t21=>((laws_eqTree.f k t12 t21).bind fun t24=>(if t24 = true then ((laws_toHeap.f k l1_0).bind fun t25=>((laws_eqHeap.f k t16 t25).bind fun t28=>(if t28 = true then (some true) else (some false)))) else (some false))))))))))))))
theorem laws_FnExactValidHeap.mono : ∀ a0 a1 k,LeO (laws_FnExactValidHeap.f k a0 a1) (laws_FnExactValidHeap.f (k + 1) a0 a1):=by
 intro a0 a1 k
 unfold laws_FnExactValidHeap.f
 repeat' first
   | (with_reducible exact laws_eqHeap.mono _ _ _)
   | (with_reducible exact laws_eqTree.mono _ _ _)
   | (with_reducible exact laws_szTree.mono _ _ _)
   | (with_reducible exact laws_toHeap.mono _ _)
   | (with_reducible exact laws_toTree.mono _ _)
   | (with_reducible exact spec_ValidHeap.mono _ _ _)
   | (with_reducible exact LeO.refl _)
   | (with_reducible exact LeO.none _)
   | (with_reducible refine LeO.ite ?_ ?_)
   | (with_reducible refine LeO.bind ?_ (fun _=>?_))
   | exact laws_eqHeap.mono _ _ _
   | exact laws_eqTree.mono _ _ _
   | exact laws_szTree.mono _ _ _
   | exact laws_toHeap.mono _ _
   | exact laws_toTree.mono _ _
   | exact spec_ValidHeap.mono _ _ _
   | exact LeO.none _
   | refine LeO.ite ?_ ?_
   | refine LeO.bind ?_ (fun _=>?_)
set_option maxHeartbeats 8000000 in
set_option maxRecDepth 100000 in
theorem laws_FnExactValidHeap.calls (k : Nat) (A0_0 : Option Addr) (c0_0 : Nat) (l0_0 : List (S103)) (A1_0 : Option Addr) (c1_0 : Nat) (l1_0 : List (S109)) (r : Bool) (w : World) (hr0_0 : Kd.C k103 w A0_0 l0_0.length l0_0) (hc0_0 : l0_0.length ≤ c0_0) (hr1_0 : Kd.C k109 w A1_0 l1_0.length l1_0) (hc1_0 : l1_0.length ≤ c1_0) (h : laws_FnExactValidHeap.f k l0_0 l1_0 = some r) :
  Calls Try.prog 3 #[.agg #[.slice A0_0 l0_0.length c0_0],.agg #[.slice A1_0 l1_0.length c1_0]] w fun e w'=>e = .returned (.bool r) ∧ Below w.heap.size w w':=by
 have hu24:=Try.underlying24
 have hu27:=Try.underlying27
 have hu33:=Try.underlying33
 have hu37:=Try.underlying37
 have HR0_0:=a0_ hr0_0
 have HC0_0:=a0_ hc0_0
 clear hr0_0 hc0_0
 have HR1_0:=a0_ hr1_0
 have HC1_0:=a0_ hc1_0
 clear hr1_0 hc1_0
 have HB:=a0_ (Below.refl w.heap.size w)
 have H : ((laws_szTree.f k l0_0 1048576).bind fun t3=>(if t3 < 0 then (some true) else ((laws_szHeap.f l1_0 t3).bind fun t4=>(if t4 < 0 then (some true) else ((laws_toTree.f k l0_0).bind fun t5=>((laws_toHeap.f k l1_0).bind fun t8=>((spec_ValidHeap.f k t5 t8).bind fun t11=>((laws_toTree.f k l0_0).bind fun t12=>((laws_toHeap.f k l1_0).bind fun t16=>((impl_ValidHeap.f t12 t16).bind fun t20=>(if (t20 != t11) = true then (some false) else ((laws_toTree.f k l0_0).bind fun t21=>((laws_eqTree.f k t12 t21).bind fun t24=>(if t24 = true then ((laws_toHeap.f k l1_0).bind fun t25=>((laws_eqHeap.f k t16 t25).bind fun t28=>(if t28 = true then (some true) else (some false)))) else (some false))))))))))))))) = some r:=h
 clear h
 replace H:=Option.bind_eq_some_iff.mp H
 obtain ⟨t3,A30,H⟩:=H
 replace H : (if t3 < 0 then (some true) else ((laws_szHeap.f l1_0 t3).bind fun t4=>(if t4 < 0 then (some true) else ((laws_toTree.f k l0_0).bind fun t5=>((laws_toHeap.f k l1_0).bind fun t8=>((spec_ValidHeap.f k t5 t8).bind fun t11=>((laws_toTree.f k l0_0).bind fun t12=>((laws_toHeap.f k l1_0).bind fun t16=>((impl_ValidHeap.f t12 t16).bind fun t20=>(if (t20 != t11) = true then (some false) else ((laws_toTree.f k l0_0).bind fun t21=>((laws_eqTree.f k t12 t21).bind fun t24=>(if t24 = true then ((laws_toHeap.f k l1_0).bind fun t25=>((laws_eqHeap.f k t16 t25).bind fun t28=>(if t28 = true then (some true) else (some false)))) else (some false)))))))))))))) = some r:=H
 have A3:=a0_ A30
 clear A30
 by_cases c4 : t3 < 0
 ·rw [if_pos c4] at H
  have c4b0 : decide (t3 < 0) = true:=decide_eq_true c4
  clear c4
  obtain rfl:=Option.some.inj H
  go_enter Try.func3,Try.ntmps3
  go_wp2_with (first | ((with_reducible refine gate_dst (N:=2) rfl ?_);refine box_event ?hg (N:=2) ?hd (cs:=#[.slice A0_0 l0_0.length c0_0]) (t:=24) ?hr ?_;(case hd=>rfl);(case hg=>rfl);(case hr=>first | (go_simp;done) | (go_simp;rfl));intro gb1 hg w5 hbox hb;have n0_:=a0_ (below_step hb_ hb);have n1_:=a0_ (hbox);have n2_:=a0_ ((by rw [hg];exact (below_size hb_) : w.heap.size ≤ gb1));have n3_:=a0_ ((by rw [hg];exact (below_size hb_) : w.heap.size ≤ gb1));clear HB;have HB:=n0_;have BK1:=n1_;have GW1:=n2_;have GE1:=n3_;clear n0_ n1_ n2_ n3_;clear hb hbox hg) | ((with_reducible refine gate_dst (N:=3) rfl ?_);refine box_event ?hg (N:=3) ?hd (cs:=#[.slice A1_0 l1_0.length c1_0]) (t:=27) ?hr ?_;(case hd=>rfl);(case hg=>rfl);(case hr=>first | (go_simp;done) | (go_simp;rfl));intro gb2 hg w6 hbox hb;have n0_:=a0_ (blk_below (g:=gb1) (o:=.cells #[.slice A0_0 l0_0.length c0_0] 24 (0,0)) (bb_ BK1.out) hb);have n1_:=a0_ (below_step hb_ hb);have n2_:=a0_ (hbox);have n3_:=a0_ ((by rw [hg];exact (below_size hb_) : w.heap.size ≤ gb2));have n4_:=a0_ ((by rw [hg];exact (below_size hb_) : w.heap.size ≤ gb2));have n5_:=a0_ ((by rw [hg];exact Nat.ne_of_lt (blk_lt (g:=gb1) (o:=.cells #[.slice A0_0 l0_0.length c0_0] 24 (0,0)) (bb_ BK1.out)) : gb1 ≠ gb2));have n6_:=a0_ ((by rw [hg];exact Nat.ne_of_gt (blk_lt (g:=gb1) (o:=.cells #[.slice A0_0 l0_0.length c0_0] 24 (0,0)) (bb_ BK1.out)) : gb2 ≠ gb1));clear BK1 HB;have BK1:=n0_;have HB:=n1_;have BK2:=n2_;have GW2:=n3_;have GE2:=n4_;have NB1_2:=n5_;have NB2_1:=n6_;clear n0_ n1_ n2_ n3_ n4_ n5_ n6_;clear hb hbox hg;have hnb7:=NB1_2.out;have hnc7:=NB2_1.out;have hcz8_0 : w6.cell? ⟨gb1,0,none⟩ = some (.slice A0_0 l0_0.length c0_0):=(blk_cell BK1.out 0).trans rfl;have hfz8_0:=blk_frozen BK1.out 0) | ((with_reducible refine gate_callee (f:=14) rfl ?_);refine goesL_ (some 12) rfl rfl Try.func14 (by kernel_rfl) rfl #[.agg #[.slice A0_0 l0_0.length c0_0],.int .i64 1048576] rfl lm_ ?_;(with_reducible refine (laws_szTree.calls k _ _ l0_0 1048576 t3 _ ?side1 ?side2 A3.out).mono ?_);(case side1=>exact cc_ (Kd.C_below HR0_0.out HB.out));(case side2=>exact HC0_0.out);rintro e w9 ⟨rfl,hb⟩;refine ⟨_,rfl,?_⟩;have n0_:=a0_ (blk_below (g:=gb1) (o:=.cells #[.slice A0_0 l0_0.length c0_0] 24 (0,0)) (bb_ BK1.out) hb);have n1_:=a0_ (blk_below (g:=gb2) (o:=.cells #[.slice A1_0 l1_0.length c1_0] 27 (0,0)) (bb_ BK2.out) hb);have n2_:=a0_ (below_step hb_ hb);clear BK1 BK2 HB;have BK1:=n0_;have BK2:=n1_;have HB:=n2_;clear n0_ n1_ n2_;(try clear hb);(try clear hb2);(try clear hk);(try clear hi)))
  go_ret
  exact ⟨by first | rfl | (simp [errW_none,errW_some] <;> rfl) | (simp [*,errW_none,errW_some] <;> rfl),hb_⟩
 ·rw [if_neg c4] at H
  have c4b0 : decide (t3 < 0) = false:=decide_eq_false c4
  clear c4
  replace H:=Option.bind_eq_some_iff.mp H
  obtain ⟨t4,A100,H⟩:=H
  replace H : (if t4 < 0 then (some true) else ((laws_toTree.f k l0_0).bind fun t5=>((laws_toHeap.f k l1_0).bind fun t8=>((spec_ValidHeap.f k t5 t8).bind fun t11=>((laws_toTree.f k l0_0).bind fun t12=>((laws_toHeap.f k l1_0).bind fun t16=>((impl_ValidHeap.f t12 t16).bind fun t20=>(if (t20 != t11) = true then (some false) else ((laws_toTree.f k l0_0).bind fun t21=>((laws_eqTree.f k t12 t21).bind fun t24=>(if t24 = true then ((laws_toHeap.f k l1_0).bind fun t25=>((laws_eqHeap.f k t16 t25).bind fun t28=>(if t28 = true then (some true) else (some false)))) else (some false)))))))))))) = some r:=H
  have A10:=a0_ A100
  clear A100
  by_cases c11 : t4 < 0
  ·rw [if_pos c11] at H
   have c11b0 : decide (t4 < 0) = true:=decide_eq_true c11
   clear c11
   obtain rfl:=Option.some.inj H
   go_enter Try.func3,Try.ntmps3
   go_wp2_with (first | ((with_reducible refine gate_dst (N:=2) rfl ?_);refine box_event ?hg (N:=2) ?hd (cs:=#[.slice A0_0 l0_0.length c0_0]) (t:=24) ?hr ?_;(case hd=>rfl);(case hg=>rfl);(case hr=>first | (go_simp;done) | (go_simp;rfl));intro gb1 hg w12 hbox hb;have n0_:=a0_ (below_step hb_ hb);have n1_:=a0_ (hbox);have n2_:=a0_ ((by rw [hg];exact (below_size hb_) : w.heap.size ≤ gb1));have n3_:=a0_ ((by rw [hg];exact (below_size hb_) : w.heap.size ≤ gb1));clear HB;have HB:=n0_;have BK1:=n1_;have GW1:=n2_;have GE1:=n3_;clear n0_ n1_ n2_ n3_;clear hb hbox hg) | ((with_reducible refine gate_dst (N:=3) rfl ?_);refine box_event ?hg (N:=3) ?hd (cs:=#[.slice A1_0 l1_0.length c1_0]) (t:=27) ?hr ?_;(case hd=>rfl);(case hg=>rfl);(case hr=>first | (go_simp;done) | (go_simp;rfl));intro gb2 hg w13 hbox hb;have n0_:=a0_ (blk_below (g:=gb1) (o:=.cells #[.slice A0_0 l0_0.length c0_0] 24 (0,0)) (bb_ BK1.out) hb);have n1_:=a0_ (below_step hb_ hb);have n2_:=a0_ (hbox);have n3_:=a0_ ((by rw [hg];exact (below_size hb_) : w.heap.size ≤ gb2));have n4_:=a0_ ((by rw [hg];exact (below_size hb_) : w.heap.size ≤ gb2));have n5_:=a0_ ((by rw [hg];exact Nat.ne_of_lt (blk_lt (g:=gb1) (o:=.cells #[.slice A0_0 l0_0.length c0_0] 24 (0,0)) (bb_ BK1.out)) : gb1 ≠ gb2));have n6_:=a0_ ((by rw [hg];exact Nat.ne_of_gt (blk_lt (g:=gb1) (o:=.cells #[.slice A0_0 l0_0.length c0_0] 24 (0,0)) (bb_ BK1.out)) : gb2 ≠ gb1));clear BK1 HB;have BK1:=n0_;have HB:=n1_;have BK2:=n2_;have GW2:=n3_;have GE2:=n4_;have NB1_2:=n5_;have NB2_1:=n6_;clear n0_ n1_ n2_ n3_ n4_ n5_ n6_;clear hb hbox hg;have hnb14:=NB1_2.out;have hnc14:=NB2_1.out;have hcz15_0 : w13.cell? ⟨gb1,0,none⟩ = some (.slice A0_0 l0_0.length c0_0):=(blk_cell BK1.out 0).trans rfl;have hfz15_0:=blk_frozen BK1.out 0) | ((with_reducible refine gate_callee (f:=14) rfl ?_);refine goesL_ (some 12) rfl rfl Try.func14 (by kernel_rfl) rfl #[.agg #[.slice A0_0 l0_0.length c0_0],.int .i64 1048576] rfl lm_ ?_;(with_reducible refine (laws_szTree.calls k _ _ l0_0 1048576 t3 _ ?side1 ?side2 A3.out).mono ?_);(case side1=>exact cc_ (Kd.C_below HR0_0.out HB.out));(case side2=>exact HC0_0.out);rintro e w16 ⟨rfl,hb⟩;refine ⟨_,rfl,?_⟩;have n0_:=a0_ (blk_below (g:=gb1) (o:=.cells #[.slice A0_0 l0_0.length c0_0] 24 (0,0)) (bb_ BK1.out) hb);have n1_:=a0_ (blk_below (g:=gb2) (o:=.cells #[.slice A1_0 l1_0.length c1_0] 27 (0,0)) (bb_ BK2.out) hb);have n2_:=a0_ (below_step hb_ hb);clear BK1 BK2 HB;have BK1:=n0_;have BK2:=n1_;have HB:=n2_;clear n0_ n1_ n2_;(try clear hb);(try clear hb2);(try clear hk);(try clear hi);have hcz17_0 : w16.cell? ⟨gb2,0,none⟩ = some (.slice A1_0 l1_0.length c1_0):=(blk_cell BK2.out 0).trans rfl;have hfz17_0:=blk_frozen BK2.out 0) | ((with_reducible refine gate_callee (f:=15) rfl ?_);refine goesL_ (some 17) rfl rfl Try.func15 (by kernel_rfl) rfl #[.agg #[.slice A1_0 l1_0.length c1_0],.int .i64 t3] rfl lm_ ?_;(with_reducible refine (laws_szHeap.calls _ _ l1_0 t3 t4 _ ?side1 ?side2 A10.out).mono ?_);(case side1=>exact cc_ (Kd.C_below HR1_0.out HB.out));(case side2=>exact HC1_0.out);rintro e w18 ⟨rfl,hb⟩;refine ⟨_,rfl,?_⟩;have n0_:=a0_ (blk_below (g:=gb1) (o:=.cells #[.slice A0_0 l0_0.length c0_0] 24 (0,0)) (bb_ BK1.out) hb);have n1_:=a0_ (blk_below (g:=gb2) (o:=.cells #[.slice A1_0 l1_0.length c1_0] 27 (0,0)) (bb_ BK2.out) hb);have n2_:=a0_ (below_step hb_ hb);clear BK1 BK2 HB;have BK1:=n0_;have BK2:=n1_;have HB:=n2_;clear n0_ n1_ n2_;(try clear hb);(try clear hb2);(try clear hk);(try clear hi)))
   go_ret
   exact ⟨by first | rfl | (simp [errW_none,errW_some] <;> rfl) | (simp [*,errW_none,errW_some] <;> rfl),hb_⟩
  ·rw [if_neg c11] at H
   have c11b0 : decide (t4 < 0) = false:=decide_eq_false c11
   clear c11
   replace H:=Option.bind_eq_some_iff.mp H
   obtain ⟨t5,A190,H⟩:=H
   replace H : ((laws_toHeap.f k l1_0).bind fun t8=>((spec_ValidHeap.f k t5 t8).bind fun t11=>((laws_toTree.f k l0_0).bind fun t12=>((laws_toHeap.f k l1_0).bind fun t16=>((impl_ValidHeap.f t12 t16).bind fun t20=>(if (t20 != t11) = true then (some false) else ((laws_toTree.f k l0_0).bind fun t21=>((laws_eqTree.f k t12 t21).bind fun t24=>(if t24 = true then ((laws_toHeap.f k l1_0).bind fun t25=>((laws_eqHeap.f k t16 t25).bind fun t28=>(if t28 = true then (some true) else (some false)))) else (some false)))))))))) = some r:=H
   have A19:=a0_ A190
   clear A190
   replace H:=Option.bind_eq_some_iff.mp H
   obtain ⟨t8,A200,H⟩:=H
   replace H : ((spec_ValidHeap.f k t5 t8).bind fun t11=>((laws_toTree.f k l0_0).bind fun t12=>((laws_toHeap.f k l1_0).bind fun t16=>((impl_ValidHeap.f t12 t16).bind fun t20=>(if (t20 != t11) = true then (some false) else ((laws_toTree.f k l0_0).bind fun t21=>((laws_eqTree.f k t12 t21).bind fun t24=>(if t24 = true then ((laws_toHeap.f k l1_0).bind fun t25=>((laws_eqHeap.f k t16 t25).bind fun t28=>(if t28 = true then (some true) else (some false)))) else (some false))))))))) = some r:=H
   have A20:=a0_ A200
   clear A200
   replace H:=Option.bind_eq_some_iff.mp H
   obtain ⟨t11,A210,H⟩:=H
   replace H : ((laws_toTree.f k l0_0).bind fun t12=>((laws_toHeap.f k l1_0).bind fun t16=>((impl_ValidHeap.f t12 t16).bind fun t20=>(if (t20 != t11) = true then (some false) else ((laws_toTree.f k l0_0).bind fun t21=>((laws_eqTree.f k t12 t21).bind fun t24=>(if t24 = true then ((laws_toHeap.f k l1_0).bind fun t25=>((laws_eqHeap.f k t16 t25).bind fun t28=>(if t28 = true then (some true) else (some false)))) else (some false)))))))) = some r:=H
   have A21:=a0_ A210
   clear A210
   replace H:=Option.bind_eq_some_iff.mp H
   obtain ⟨t12,A220,H⟩:=H
   replace H : ((laws_toHeap.f k l1_0).bind fun t16=>((impl_ValidHeap.f t12 t16).bind fun t20=>(if (t20 != t11) = true then (some false) else ((laws_toTree.f k l0_0).bind fun t21=>((laws_eqTree.f k t12 t21).bind fun t24=>(if t24 = true then ((laws_toHeap.f k l1_0).bind fun t25=>((laws_eqHeap.f k t16 t25).bind fun t28=>(if t28 = true then (some true) else (some false)))) else (some false))))))) = some r:=H
   have A22:=a0_ A220
   clear A220
   replace H:=Option.bind_eq_some_iff.mp H
   obtain ⟨t16,A230,H⟩:=H
   replace H : ((impl_ValidHeap.f t12 t16).bind fun t20=>(if (t20 != t11) = true then (some false) else ((laws_toTree.f k l0_0).bind fun t21=>((laws_eqTree.f k t12 t21).bind fun t24=>(if t24 = true then ((laws_toHeap.f k l1_0).bind fun t25=>((laws_eqHeap.f k t16 t25).bind fun t28=>(if t28 = true then (some true) else (some false)))) else (some false)))))) = some r:=H
   have A23:=a0_ A230
   clear A230
   replace H:=Option.bind_eq_some_iff.mp H
   obtain ⟨t20,A240,H⟩:=H
   replace H : (if (t20 != t11) = true then (some false) else ((laws_toTree.f k l0_0).bind fun t21=>((laws_eqTree.f k t12 t21).bind fun t24=>(if t24 = true then ((laws_toHeap.f k l1_0).bind fun t25=>((laws_eqHeap.f k t16 t25).bind fun t28=>(if t28 = true then (some true) else (some false)))) else (some false))))) = some r:=H
   have A24:=a0_ A240
   clear A240
   by_cases c25 : (t20 != t11) = true
   ·rw [if_pos c25] at H
    have c25b0 : (t20 != t11) = true:=c25
    (try (have c25b1 : decide (t20 = t11) = false:=by simpa using c25))
    (try (have c25b2 : (t20 == t11) = false:=by simpa using c25))
    (try (have c25b3 : ¬ (t20 = t11):=by simpa using c25))
    clear c25
    obtain rfl:=Option.some.inj H
    go_enter Try.func3,Try.ntmps3
    try go_wp2_with (first | ((with_reducible refine gate_dst (N:=2) rfl ?_);refine box_event ?hg (N:=2) ?hd (cs:=#[.slice A0_0 l0_0.length c0_0]) (t:=24) ?hr ?_;(case hd=>rfl);(case hg=>rfl);(case hr=>first | (go_simp;done) | (go_simp;rfl));intro gb1 hg w26 hbox hb;have n0_:=a0_ (below_step hb_ hb);have n1_:=a0_ (hbox);have n2_:=a0_ ((by rw [hg];exact (below_size hb_) : w.heap.size ≤ gb1));have n3_:=a0_ ((by rw [hg];exact (below_size hb_) : w.heap.size ≤ gb1));clear HB;have HB:=n0_;have BK1:=n1_;have GW1:=n2_;have GE1:=n3_;clear n0_ n1_ n2_ n3_;clear hb hbox hg) | ((with_reducible refine gate_dst (N:=3) rfl ?_);refine box_event ?hg (N:=3) ?hd (cs:=#[.slice A1_0 l1_0.length c1_0]) (t:=27) ?hr ?_;(case hd=>rfl);(case hg=>rfl);(case hr=>first | (go_simp;done) | (go_simp;rfl));intro gb2 hg w27 hbox hb;have n0_:=a0_ (blk_below (g:=gb1) (o:=.cells #[.slice A0_0 l0_0.length c0_0] 24 (0,0)) (bb_ BK1.out) hb);have n1_:=a0_ (below_step hb_ hb);have n2_:=a0_ (hbox);have n3_:=a0_ ((by rw [hg];exact (below_size hb_) : w.heap.size ≤ gb2));have n4_:=a0_ ((by rw [hg];exact (below_size hb_) : w.heap.size ≤ gb2));have n5_:=a0_ ((by rw [hg];exact Nat.ne_of_lt (blk_lt (g:=gb1) (o:=.cells #[.slice A0_0 l0_0.length c0_0] 24 (0,0)) (bb_ BK1.out)) : gb1 ≠ gb2));have n6_:=a0_ ((by rw [hg];exact Nat.ne_of_gt (blk_lt (g:=gb1) (o:=.cells #[.slice A0_0 l0_0.length c0_0] 24 (0,0)) (bb_ BK1.out)) : gb2 ≠ gb1));clear BK1 HB;have BK1:=n0_;have HB:=n1_;have BK2:=n2_;have GW2:=n3_;have GE2:=n4_;have NB1_2:=n5_;have NB2_1:=n6_;clear n0_ n1_ n2_ n3_ n4_ n5_ n6_;clear hb hbox hg;have hnb28:=NB1_2.out;have hnc28:=NB2_1.out;have hcz29_0 : w27.cell? ⟨gb1,0,none⟩ = some (.slice A0_0 l0_0.length c0_0):=(blk_cell BK1.out 0).trans rfl;have hfz29_0:=blk_frozen BK1.out 0) | ((with_reducible refine gate_callee (f:=14) rfl ?_);refine goesL_ (some 12) rfl rfl Try.func14 (by kernel_rfl) rfl #[.agg #[.slice A0_0 l0_0.length c0_0],.int .i64 1048576] rfl lm_ ?_;(with_reducible refine (laws_szTree.calls k _ _ l0_0 1048576 t3 _ ?side1 ?side2 A3.out).mono ?_);(case side1=>exact cc_ (Kd.C_below HR0_0.out HB.out));(case side2=>exact HC0_0.out);rintro e w30 ⟨rfl,hb⟩;refine ⟨_,rfl,?_⟩;have n0_:=a0_ (blk_below (g:=gb1) (o:=.cells #[.slice A0_0 l0_0.length c0_0] 24 (0,0)) (bb_ BK1.out) hb);have n1_:=a0_ (blk_below (g:=gb2) (o:=.cells #[.slice A1_0 l1_0.length c1_0] 27 (0,0)) (bb_ BK2.out) hb);have n2_:=a0_ (below_step hb_ hb);clear BK1 BK2 HB;have BK1:=n0_;have BK2:=n1_;have HB:=n2_;clear n0_ n1_ n2_;(try clear hb);(try clear hb2);(try clear hk);(try clear hi);have hcz31_0 : w30.cell? ⟨gb2,0,none⟩ = some (.slice A1_0 l1_0.length c1_0):=(blk_cell BK2.out 0).trans rfl;have hfz31_0:=blk_frozen BK2.out 0) | ((with_reducible refine gate_callee (f:=15) rfl ?_);refine goesL_ (some 17) rfl rfl Try.func15 (by kernel_rfl) rfl #[.agg #[.slice A1_0 l1_0.length c1_0],.int .i64 t3] rfl lm_ ?_;(with_reducible refine (laws_szHeap.calls _ _ l1_0 t3 t4 _ ?side1 ?side2 A10.out).mono ?_);(case side1=>exact cc_ (Kd.C_below HR1_0.out HB.out));(case side2=>exact HC1_0.out);rintro e w32 ⟨rfl,hb⟩;refine ⟨_,rfl,?_⟩;have n0_:=a0_ (blk_below (g:=gb1) (o:=.cells #[.slice A0_0 l0_0.length c0_0] 24 (0,0)) (bb_ BK1.out) hb);have n1_:=a0_ (blk_below (g:=gb2) (o:=.cells #[.slice A1_0 l1_0.length c1_0] 27 (0,0)) (bb_ BK2.out) hb);have n2_:=a0_ (below_step hb_ hb);clear BK1 BK2 HB;have BK1:=n0_;have BK2:=n1_;have HB:=n2_;clear n0_ n1_ n2_;(try clear hb);(try clear hb2);(try clear hk);(try clear hi)))
    have n0_:=a0_ (blk_drew BK1.out)
    have n1_:=a0_ (blk_drew BK2.out)
    have n2_:=a0_ (below_drew1 HB.out)
    clear BK1
    clear BK2
    clear HB
    have BK1:=n0_
    have BK2:=n1_
    have HB:=n2_
    clear n0_ n1_ n2_
    refine start_ (n:=6) (S:=fun w'=>w'.cell? ⟨gb1,0,none⟩ = some (.slice A0_0 l0_0.length c0_0) ∧ w'.cell? ⟨gb2,0,none⟩ = some (.slice A1_0 l1_0.length c1_0)) (ds:=[]) #[false,false,false,false,false,false] (by kernel_rfl) rfl rfl ⟨(blk_cell BK1.out 0).trans rfl,(blk_cell BK2.out 0).trans rfl⟩ (fun hHeld=>?_)
    generalize w32.drew = w33 at BK1 BK2 HB hHeld ⊢
    refine take_ (i:=0) (N:=some 20) (v:=?_) (a':=?_) #[true,false,false,false,false,false] rfl rfl (by kernel_rfl) (fun _ _ _ h=>h) (Or.inl ⟨by rfl,?_⟩) hHeld ?_ ?_
    rotate_left
    ·rintro w' ⟨s0,s1⟩
     go_simp
     with_reducible rfl
    rotate_left
    ·simp only [Act.put,List.setIfInBounds_toArray,List.set_cons_zero,List.set_cons_succ,i64_w,i32_w]
     rfl
    refine take_ (i:=2) (N:=some 22) (v:=?_) (a':=?_) #[true,false,true,false,false,false] rfl rfl (by kernel_rfl) (fun _ _ _ h=>h) (Or.inl ⟨by rfl,?_⟩) hHeld ?_ ?_
    rotate_left
    ·rintro w' ⟨s0,s1⟩
     go_simp
     with_reducible rfl
    rotate_left
    ·simp only [Act.put,List.setIfInBounds_toArray,List.set_cons_zero,List.set_cons_succ,i64_w,i32_w]
     rfl
    refine one_ (i:=1) (N:=some 21) #[true,true,true,false,false,false] rfl rfl (by kernel_rfl) (by decide) (fun K hK=>?_)
    refine goes_ Try.func17 (by kernel_rfl) rfl #[.agg #[.slice A0_0 l0_0.length c0_0]] (by rfl) rfl rfl lm_ ?_
    with_reducible refine (laws_toTree.calls k _ _ l0_0 t5 _ ?side1 ?side2 A19.out).mono ?_
    (case side1=>exact cc_ (Kd.C_below HR0_0.out HB.out))
    (case side2=>exact HC0_0.out)
    rintro e w34 ⟨v6,rfl,ho0,hb⟩
    refine ⟨_,rfl,?_⟩
    have n0_:=a0_ (Kd.R_lower ho0 (below_size hb_))
    have n1_:=a0_ (blk_below (g:=gb1) (o:=.cells #[.slice A0_0 l0_0.length c0_0] 24 (0,0)) (bb_ BK1.out) hb)
    have n2_:=a0_ (blk_below (g:=gb2) (o:=.cells #[.slice A1_0 l1_0.length c1_0] 27 (0,0)) (bb_ BK2.out) hb)
    have n3_:=a0_ (below_step hb_ hb)
    clear BK1
    clear BK2
    clear HB
    have HO7:=n0_
    have BK1:=n1_
    have BK2:=n2_
    have HB:=n3_
    clear n0_ n1_ n2_ n3_
    (try clear hb)
    (try clear hb2)
    (try clear hk)
    (try clear hi)
    (try clear ho0)
    refine hK.out _ _ ⟨(blk_cell BK1.out 0).trans rfl,(blk_cell BK2.out 0).trans rfl⟩ (fun hHeld=>?_)
    clear hK K
    refine norm_ (a':=?_) ?_ ?_
    rotate_left
    ·show Act.put _ (some 21) _ = _
     simp only [Act.put,List.setIfInBounds_toArray,List.set_cons_zero,List.set_cons_succ,i64_w,i32_w]
     rfl
    refine one_ (i:=3) (N:=some 23) #[true,true,true,true,false,false] rfl rfl (by kernel_rfl) (by decide) (fun K hK=>?_)
    refine goes_ Try.func18 (by kernel_rfl) rfl #[.agg #[.slice A1_0 l1_0.length c1_0]] (by rfl) rfl rfl lm_ ?_
    with_reducible refine (laws_toHeap.calls k _ _ l1_0 t8 _ ?side1 ?side2 A20.out).mono ?_
    (case side1=>exact cc_ (Kd.C_below HR1_0.out HB.out))
    (case side2=>exact HC1_0.out)
    rintro e w35 ⟨v9,rfl,ho0,hb⟩
    refine ⟨_,rfl,?_⟩
    have n0_:=a0_ (Kd.R_below (rr_ HO7.out) hb)
    have n1_:=a0_ (Kd.R_lower ho0 (below_size hb_))
    have n2_:=a0_ (blk_below (g:=gb1) (o:=.cells #[.slice A0_0 l0_0.length c0_0] 24 (0,0)) (bb_ BK1.out) hb)
    have n3_:=a0_ (blk_below (g:=gb2) (o:=.cells #[.slice A1_0 l1_0.length c1_0] 27 (0,0)) (bb_ BK2.out) hb)
    have n4_:=a0_ (below_step hb_ hb)
    clear HO7
    clear BK1
    clear BK2
    clear HB
    have HO7:=n0_
    have HO10:=n1_
    have BK1:=n2_
    have BK2:=n3_
    have HB:=n4_
    clear n0_ n1_ n2_ n3_ n4_
    (try clear hb)
    (try clear hb2)
    (try clear hk)
    (try clear hi)
    (try clear ho0)
    obtain ⟨Ao36,co36,eo36⟩:=Kd.R_slice HO7.out
    (first | subst eo36 | (injection eo36 with f1_ f2_ f3_;have f4_:=f1_.symm;have f5_:=f3_.symm;clear f1_ f2_ f3_;subst f4_;subst f5_))
    obtain ⟨Ao37,co37,eo37⟩:=Kd.R_slice HO10.out
    (first | subst eo37 | (injection eo37 with f1_ f2_ f3_;have f4_:=f1_.symm;have f5_:=f3_.symm;clear f1_ f2_ f3_;subst f4_;subst f5_))
    refine hK.out _ _ ⟨(blk_cell BK1.out 0).trans rfl,(blk_cell BK2.out 0).trans rfl⟩ (fun hHeld=>?_)
    clear hK K
    refine norm_ (a':=?_) ?_ ?_
    rotate_left
    ·show Act.put _ (some 23) _ = _
     simp only [Act.put,List.setIfInBounds_toArray,List.set_cons_zero,List.set_cons_succ,i64_w,i32_w]
     rfl
    refine one_ (i:=4) (N:=some 24) #[true,true,true,true,true,false] rfl rfl (by kernel_rfl) (by decide) (fun K hK=>?_)
    refine goes_ Try.func16 (by kernel_rfl) rfl #[.agg #[.slice Ao36 t5.length co36],.agg #[.slice Ao37 t8.length co37]] (by rfl) rfl rfl lm_ ?_
    with_reducible refine (spec_ValidHeap.calls k _ _ t5 _ _ t8 t11 _ ?side1 ?side2 ?side3 ?side4 A21.out).mono ?_
    (case side1=>repeat (first | exact (Kd.R_reads' HO7.out).2.2 | (with_reducible refine Kd.C_alloc ?_ _) | (with_reducible refine Kd.C_drewN ?_ _) | (with_reducible refine Kd.C_drew ?_)))
    (case side2=>exact (Kd.R_reads' HO7.out).2.1)
    (case side3=>repeat (first | exact (Kd.R_reads' HO10.out).2.2 | (with_reducible refine Kd.C_alloc ?_ _) | (with_reducible refine Kd.C_drewN ?_ _) | (with_reducible refine Kd.C_drew ?_)))
    (case side4=>exact (Kd.R_reads' HO10.out).2.1)
    rintro e w38 ⟨rfl,hb⟩
    refine ⟨_,rfl,?_⟩
    have n0_:=a0_ (Kd.R_below (rr_ HO7.out) hb)
    have n1_:=a0_ (Kd.R_below (rr_ HO10.out) hb)
    have n2_:=a0_ (blk_below (g:=gb1) (o:=.cells #[.slice A0_0 l0_0.length c0_0] 24 (0,0)) (bb_ BK1.out) hb)
    have n3_:=a0_ (blk_below (g:=gb2) (o:=.cells #[.slice A1_0 l1_0.length c1_0] 27 (0,0)) (bb_ BK2.out) hb)
    have n4_:=a0_ (below_step hb_ hb)
    clear HO7
    clear HO10
    clear BK1
    clear BK2
    clear HB
    have HO7:=n0_
    have HO10:=n1_
    have BK1:=n2_
    have BK2:=n3_
    have HB:=n4_
    clear n0_ n1_ n2_ n3_ n4_
    (try clear hb)
    (try clear hb2)
    (try clear hk)
    (try clear hi)
    refine hK.out _ _ ⟨(blk_cell BK1.out 0).trans rfl,(blk_cell BK2.out 0).trans rfl⟩ (fun hHeld=>?_)
    clear hK K
    refine norm_ (a':=?_) ?_ ?_
    rotate_left
    ·show Act.put _ (some 24) _ = _
     simp only [Act.put,List.setIfInBounds_toArray,List.set_cons_zero,List.set_cons_succ,i64_w,i32_w]
     rfl
    refine pure_ (i:=5) (N:=some 6) (v:=?_) (a':=?_) #[true,true,true,true,true,true] rfl rfl (by kernel_rfl) (fun _ _ _ h=>h) (Or.inl ⟨by rfl,?_⟩) ?_ ?_
    rotate_left
    ·intro w'
     go_simp
     with_reducible rfl
    rotate_left
    ·simp only [Act.put,List.setIfInBounds_toArray,List.set_cons_zero,List.set_cons_succ,i64_w,i32_w]
     rfl
    refine done_ (by kernel_rfl) ?_
    have hcz39_0 : w38.cell? ⟨gb1,0,none⟩ = some (.slice A0_0 l0_0.length c0_0):=(blk_cell BK1.out 0).trans rfl
    have hfz39_0:=blk_frozen BK1.out 0
    try go_wp2_with (first | ((with_reducible refine gate_callee (f:=17) rfl ?_);refine goesL_ (some 26) rfl rfl Try.func17 (by kernel_rfl) rfl #[.agg #[.slice A0_0 l0_0.length c0_0]] rfl lm_ ?_;(with_reducible refine (laws_toTree.calls k _ _ l0_0 t12 _ ?side1 ?side2 A22.out).mono ?_);(case side1=>exact cc_ (Kd.C_below HR0_0.out HB.out));(case side2=>exact HC0_0.out);rintro e w40 ⟨v13,rfl,ho0,hb⟩;refine ⟨_,rfl,?_⟩;have n0_:=a0_ (Kd.R_elder' (rr_ HO7.out) (Kd.R_base ho0) hb);have n1_:=a0_ (Kd.R_below (rr_ HO10.out) hb);have n2_:=a0_ (Kd.R_lower (Kd.R_new' ho0 (Kd.R_lt (rr_ HO7.out))) (below_size hb_));have n3_:=a0_ (blk_below (g:=gb1) (o:=.cells #[.slice A0_0 l0_0.length c0_0] 24 (0,0)) (bb_ BK1.out) hb);have n4_:=a0_ (blk_below (g:=gb2) (o:=.cells #[.slice A1_0 l1_0.length c1_0] 27 (0,0)) (bb_ BK2.out) hb);have n5_:=a0_ (below_step hb_ hb);clear HO7 HO10;clear BK1 BK2 HB;have HO7:=n0_;have HO10:=n1_;have HO14:=n2_;have BK1:=n3_;have BK2:=n4_;have HB:=n5_;clear n0_ n1_ n2_ n3_ n4_ n5_;(try clear hb);(try clear hb2);(try clear hk);(try clear hi);(try clear ho0)) | ((with_reducible refine gate_dst (N:=7) rfl ?_);refine box_event ?hg (N:=7) ?hd (cs:=#[.slice none 0 0]) (t:=33) ?hr ?_;(case hd=>rfl);(case hg=>rfl);(case hr=>first | (go_simp;done) | (go_simp;rfl));intro gb15 hg w41 hbox hb;have n0_:=a0_ (Kd.R_below (rr_ HO7.out) hb);have n1_:=a0_ (Kd.R_below (rr_ HO10.out) hb);have n2_:=a0_ (Kd.R_below (rr_ HO14.out) hb);have n3_:=a0_ (blk_below (g:=gb1) (o:=.cells #[.slice A0_0 l0_0.length c0_0] 24 (0,0)) (bb_ BK1.out) hb);have n4_:=a0_ (blk_below (g:=gb2) (o:=.cells #[.slice A1_0 l1_0.length c1_0] 27 (0,0)) (bb_ BK2.out) hb);have n5_:=a0_ (below_step hb_ hb);have n6_:=a0_ (hbox);have n7_:=a0_ ((by rw [hg];exact (below_size hb_) : w.heap.size ≤ gb15));have n8_:=a0_ ((by rw [hg];exact (below_size hb_) : w.heap.size ≤ gb15));have n9_:=a0_ ((by rw [hg];exact Nat.ne_of_lt (blk_lt (g:=gb1) (o:=.cells #[.slice A0_0 l0_0.length c0_0] 24 (0,0)) (bb_ BK1.out)) : gb1 ≠ gb15));have n10_:=a0_ ((by rw [hg];exact Nat.ne_of_gt (blk_lt (g:=gb1) (o:=.cells #[.slice A0_0 l0_0.length c0_0] 24 (0,0)) (bb_ BK1.out)) : gb15 ≠ gb1));have n11_:=a0_ ((by rw [hg];exact Nat.ne_of_lt (blk_lt (g:=gb2) (o:=.cells #[.slice A1_0 l1_0.length c1_0] 27 (0,0)) (bb_ BK2.out)) : gb2 ≠ gb15));have n12_:=a0_ ((by rw [hg];exact Nat.ne_of_gt (blk_lt (g:=gb2) (o:=.cells #[.slice A1_0 l1_0.length c1_0] 27 (0,0)) (bb_ BK2.out)) : gb15 ≠ gb2));clear HO7 HO10;clear HO14 BK1;clear BK2 HB;have HO7:=n0_;have HO10:=n1_;have HO14:=n2_;have BK1:=n3_;have BK2:=n4_;have HB:=n5_;have BK15:=n6_;have GW15:=n7_;have GE15:=n8_;have NB1_15:=n9_;have NB15_1:=n10_;have NB2_15:=n11_;have NB15_2:=n12_;clear n0_ n1_ n2_ n3_ n4_ n5_ n6_ n7_ n8_ n9_ n10_ n11_ n12_;clear hb hbox hg;obtain ⟨Ao42,co42,eo42⟩:=Kd.R_slice HO14.out;subst eo42;have hnb43:=NB15_1.out;have hnc43:=NB1_15.out;have hnb44:=NB15_2.out;have hnc44:=NB2_15.out;have hcz45_0 : w41.cell? ⟨gb15,0,none⟩ = some (.slice none 0 0):=(blk_cell BK15.out 0).trans rfl;have hfz45_0:=blk_frozen BK15.out 0;have hcz46_0 : w41.cell? ⟨gb2,0,none⟩ = some (.slice A1_0 l1_0.length c1_0):=(blk_cell BK2.out 0).trans rfl;have hfz46_0:=blk_frozen BK2.out 0) | ((with_reducible refine gate_callee (f:=18) rfl ?_);refine goesL_ (some 28) rfl rfl Try.func18 (by kernel_rfl) rfl #[.agg #[.slice A1_0 l1_0.length c1_0]] rfl lm_ ?_;(with_reducible refine (laws_toHeap.calls k _ _ l1_0 t16 _ ?side1 ?side2 A23.out).mono ?_);(case side1=>exact Kd.C_below HR1_0.out hb_);(case side2=>exact HC1_0.out);rintro e w47 ⟨v17,rfl,ho0,hb⟩;refine ⟨_,rfl,?_⟩;have n0_:=a0_ (Kd.R_below (by (with_reducible repeat (first | apply Kd.R_alloc | apply Kd.R_drewN | apply Kd.R_drew));exact (Kd.R_mono (Kd.R_far (p:=⟨gb15,0,none⟩) (Kd.R_types HO7.out BK15.out (by decide)) (fun _ hk=>hk.2) (.slice Ao42 t12.length co42)) (fun _ h_=>h_.1))) hb);have n1_:=a0_ (Kd.R_elder' (by (with_reducible repeat (first | apply Kd.R_alloc | apply Kd.R_drewN | apply Kd.R_drew));exact (Kd.R_mono (Kd.R_far (p:=⟨gb15,0,none⟩) (Kd.R_types HO10.out BK15.out (by decide)) (fun _ hk=>hk.2) (.slice Ao42 t12.length co42)) (fun _ h_=>h_.1))) (Kd.R_base ho0) hb);have n2_:=a0_ (Kd.R_below (by (with_reducible repeat (first | apply Kd.R_alloc | apply Kd.R_drewN | apply Kd.R_drew));exact (Kd.R_mono (Kd.R_far (p:=⟨gb15,0,none⟩) (Kd.R_types HO14.out BK15.out (by decide)) (fun _ hk=>hk.2) (.slice Ao42 t12.length co42)) (fun _ h_=>h_.1))) hb);have n3_:=a0_ (Kd.R_lower (Kd.R_new' ho0 (Kd.R_lt (by (with_reducible repeat (first | apply Kd.R_alloc | apply Kd.R_drewN | apply Kd.R_drew));exact (Kd.R_mono (Kd.R_far (p:=⟨gb15,0,none⟩) (Kd.R_types HO10.out BK15.out (by decide)) (fun _ hk=>hk.2) (.slice Ao42 t12.length co42)) (fun _ h_=>h_.1))))) (below_size hb_));have n4_:=a0_ (blk_below (g:=gb1) (o:=.cells #[.slice A0_0 l0_0.length c0_0] 24 (0,0)) (by (with_reducible repeat (first | refine blk_drewN ?_ _ | refine blk_drew ?_ | refine blk_alloc ?_ _));refine blk_far ?_ NB1_15.out _;(with_reducible repeat (first | refine blk_drewN ?_ _ | refine blk_drew ?_ | refine blk_alloc ?_ _));exact BK1.out) hb);have n5_:=a0_ (blk_below (g:=gb2) (o:=.cells #[.slice A1_0 l1_0.length c1_0] 27 (0,0)) (by (with_reducible repeat (first | refine blk_drewN ?_ _ | refine blk_drew ?_ | refine blk_alloc ?_ _));refine blk_far ?_ NB2_15.out _;(with_reducible repeat (first | refine blk_drewN ?_ _ | refine blk_drew ?_ | refine blk_alloc ?_ _));exact BK2.out) hb);have n6_:=a0_ (blk_below (g:=gb15) (o:=.cells #[.slice Ao42 t12.length co42] 33 (0,0)) (by (with_reducible repeat (first | refine blk_drewN ?_ _ | refine blk_drew ?_ | refine blk_alloc ?_ _));refine blk_put (cs:=#[.slice none 0 0]) ?_ 0 _ rfl;(with_reducible repeat (first | refine blk_drewN ?_ _ | refine blk_drew ?_ | refine blk_alloc ?_ _));exact BK15.out) hb);have n7_:=a0_ (below_step hb_ hb);clear HO7 HO10;clear HO14 BK1;clear BK2 BK15 HB;have HO7:=n0_;have HO10:=n1_;have HO14:=n2_;have HO18:=n3_;have BK1:=n4_;have BK2:=n5_;have BK15:=n6_;have HB:=n7_;clear n0_ n1_ n2_ n3_ n4_ n5_ n6_ n7_;(try clear hb);(try clear hb2);(try clear hk);(try clear hi);(try clear ho0)) | ((with_reducible refine gate_dst (N:=8) rfl ?_);refine box_event ?hg (N:=8) ?hd (cs:=#[.slice none 0 0]) (t:=37) ?hr ?_;(case hd=>rfl);(case hg=>rfl);(case hr=>first | (go_simp;done) | (go_simp;rfl));intro gb19 hg w48 hbox hb;have n0_:=a0_ (Kd.R_below (rr_ HO7.out) hb);have n1_:=a0_ (Kd.R_below (rr_ HO10.out) hb);have n2_:=a0_ (Kd.R_below (rr_ HO14.out) hb);have n3_:=a0_ (Kd.R_below (rr_ HO18.out) hb);have n4_:=a0_ (blk_below (g:=gb1) (o:=.cells #[.slice A0_0 l0_0.length c0_0] 24 (0,0)) (bb_ BK1.out) hb);have n5_:=a0_ (blk_below (g:=gb2) (o:=.cells #[.slice A1_0 l1_0.length c1_0] 27 (0,0)) (bb_ BK2.out) hb);have n6_:=a0_ (blk_below (g:=gb15) (o:=.cells #[.slice Ao42 t12.length co42] 33 (0,0)) (bb_ BK15.out) hb);have n7_:=a0_ (below_step hb_ hb);have n8_:=a0_ (hbox);have n9_:=a0_ ((by rw [hg];exact (below_size hb_) : w.heap.size ≤ gb19));have n10_:=a0_ ((by rw [hg];exact (below_size hb_) : w.heap.size ≤ gb19));have n11_:=a0_ ((by rw [hg];exact Nat.ne_of_lt (blk_lt (g:=gb1) (o:=.cells #[.slice A0_0 l0_0.length c0_0] 24 (0,0)) (bb_ BK1.out)) : gb1 ≠ gb19));have n12_:=a0_ ((by rw [hg];exact Nat.ne_of_gt (blk_lt (g:=gb1) (o:=.cells #[.slice A0_0 l0_0.length c0_0] 24 (0,0)) (bb_ BK1.out)) : gb19 ≠ gb1));have n13_:=a0_ ((by rw [hg];exact Nat.ne_of_lt (blk_lt (g:=gb2) (o:=.cells #[.slice A1_0 l1_0.length c1_0] 27 (0,0)) (bb_ BK2.out)) : gb2 ≠ gb19));have n14_:=a0_ ((by rw [hg];exact Nat.ne_of_gt (blk_lt (g:=gb2) (o:=.cells #[.slice A1_0 l1_0.length c1_0] 27 (0,0)) (bb_ BK2.out)) : gb19 ≠ gb2));have n15_:=a0_ ((by rw [hg];exact Nat.ne_of_lt (blk_lt (g:=gb15) (o:=.cells #[.slice Ao42 t12.length co42] 33 (0,0)) (bb_ BK15.out)) : gb15 ≠ gb19));have n16_:=a0_ ((by rw [hg];exact Nat.ne_of_gt (blk_lt (g:=gb15) (o:=.cells #[.slice Ao42 t12.length co42] 33 (0,0)) (bb_ BK15.out)) : gb19 ≠ gb15));clear HO7 HO10;clear HO14 HO18;clear BK1 BK2;clear BK15 HB;have HO7:=n0_;have HO10:=n1_;have HO14:=n2_;have HO18:=n3_;have BK1:=n4_;have BK2:=n5_;have BK15:=n6_;have HB:=n7_;have BK19:=n8_;have GW19:=n9_;have GE19:=n10_;have NB1_19:=n11_;have NB19_1:=n12_;have NB2_19:=n13_;have NB19_2:=n14_;have NB15_19:=n15_;have NB19_15:=n16_;clear n0_ n1_ n2_ n3_ n4_ n5_ n6_ n7_ n8_ n9_ n10_ n11_ n12_ n13_ n14_ n15_ n16_;clear hb hbox hg;obtain ⟨Ao49,co49,eo49⟩:=Kd.R_slice HO18.out;subst eo49;have hnb50:=NB19_1.out;have hnc50:=NB1_19.out;have hnb51:=NB19_2.out;have hnc51:=NB2_19.out;have hnb52:=NB19_15.out;have hnc52:=NB15_19.out;have hcz53_0 : w48.cell? ⟨gb19,0,none⟩ = some (.slice none 0 0):=(blk_cell BK19.out 0).trans rfl;have hfz53_0:=blk_frozen BK19.out 0;have hcz54_0 : w48.cell? ⟨gb15,0,none⟩ = some (.slice Ao42 t12.length co42):=(blk_cell BK15.out 0).trans rfl;have hfz54_0:=blk_frozen BK15.out 0) | ((with_reducible refine gate_callee (f:=19) rfl ?_);refine goesL_ (some 31) rfl rfl Try.func19 (by kernel_rfl) rfl #[.agg #[.slice Ao42 t12.length co42],.agg #[.slice Ao49 t16.length co49]] rfl lm_ ?_;(with_reducible refine (impl_ValidHeap.calls _ _ t12 _ _ t16 t20 _ ?side1 ?side2 ?side3 ?side4 A24.out).mono ?_);(case side1=>refine (Kd.R_reads' (e:=106) (base:=w.heap.size) (ok:=fun k_=>(True ∧ some k_ ≠ (.slice Ao36 t5.length co36 : Value).ownBlock)) (n:=t12.length) (c:=co42) ?_).2.2;exact (by (with_reducible repeat (first | apply Kd.R_alloc | apply Kd.R_drewN | apply Kd.R_drew));exact (Kd.R_mono (Kd.R_far (p:=⟨gb19,0,none⟩) (Kd.R_types HO14.out BK19.out (by decide)) (fun _ hk=>hk.2) (.slice Ao49 t16.length co49)) (fun _ h_=>h_.1))));(case side2=>exact (Kd.R_reads' HO14.out).2.1);(case side3=>refine (Kd.R_reads' (e:=79) (base:=w.heap.size) (ok:=fun k_=>(True ∧ some k_ ≠ (.slice Ao37 t8.length co37 : Value).ownBlock)) (n:=t16.length) (c:=co49) ?_).2.2;exact (by (with_reducible repeat (first | apply Kd.R_alloc | apply Kd.R_drewN | apply Kd.R_drew));exact (Kd.R_mono (Kd.R_far (p:=⟨gb19,0,none⟩) (Kd.R_types HO18.out BK19.out (by decide)) (fun _ hk=>hk.2) (.slice Ao49 t16.length co49)) (fun _ h_=>h_.1))));(case side4=>exact (Kd.R_reads' HO18.out).2.1);rintro e w55 ⟨rfl,hb⟩;refine ⟨_,rfl,?_⟩;have n0_:=a0_ (Kd.R_below (by (with_reducible repeat (first | apply Kd.R_alloc | apply Kd.R_drewN | apply Kd.R_drew));exact (Kd.R_mono (Kd.R_far (p:=⟨gb19,0,none⟩) (Kd.R_types HO7.out BK19.out (by decide)) (fun _ hk=>hk.2) (.slice Ao49 t16.length co49)) (fun _ h_=>h_.1))) hb);have n1_:=a0_ (Kd.R_below (by (with_reducible repeat (first | apply Kd.R_alloc | apply Kd.R_drewN | apply Kd.R_drew));exact (Kd.R_mono (Kd.R_far (p:=⟨gb19,0,none⟩) (Kd.R_types HO10.out BK19.out (by decide)) (fun _ hk=>hk.2) (.slice Ao49 t16.length co49)) (fun _ h_=>h_.1))) hb);have n2_:=a0_ (Kd.R_below (by (with_reducible repeat (first | apply Kd.R_alloc | apply Kd.R_drewN | apply Kd.R_drew));exact (Kd.R_mono (Kd.R_far (p:=⟨gb19,0,none⟩) (Kd.R_types HO14.out BK19.out (by decide)) (fun _ hk=>hk.2) (.slice Ao49 t16.length co49)) (fun _ h_=>h_.1))) hb);have n3_:=a0_ (Kd.R_below (by (with_reducible repeat (first | apply Kd.R_alloc | apply Kd.R_drewN | apply Kd.R_drew));exact (Kd.R_mono (Kd.R_far (p:=⟨gb19,0,none⟩) (Kd.R_types HO18.out BK19.out (by decide)) (fun _ hk=>hk.2) (.slice Ao49 t16.length co49)) (fun _ h_=>h_.1))) hb);have n4_:=a0_ (blk_below (g:=gb1) (o:=.cells #[.slice A0_0 l0_0.length c0_0] 24 (0,0)) (by (with_reducible repeat (first | refine blk_drewN ?_ _ | refine blk_drew ?_ | refine blk_alloc ?_ _));refine blk_far ?_ NB1_19.out _;(with_reducible repeat (first | refine blk_drewN ?_ _ | refine blk_drew ?_ | refine blk_alloc ?_ _));exact BK1.out) hb);have n5_:=a0_ (blk_below (g:=gb2) (o:=.cells #[.slice A1_0 l1_0.length c1_0] 27 (0,0)) (by (with_reducible repeat (first | refine blk_drewN ?_ _ | refine blk_drew ?_ | refine blk_alloc ?_ _));refine blk_far ?_ NB2_19.out _;(with_reducible repeat (first | refine blk_drewN ?_ _ | refine blk_drew ?_ | refine blk_alloc ?_ _));exact BK2.out) hb);have n6_:=a0_ (blk_below (g:=gb15) (o:=.cells #[.slice Ao42 t12.length co42] 33 (0,0)) (by (with_reducible repeat (first | refine blk_drewN ?_ _ | refine blk_drew ?_ | refine blk_alloc ?_ _));refine blk_far ?_ NB15_19.out _;(with_reducible repeat (first | refine blk_drewN ?_ _ | refine blk_drew ?_ | refine blk_alloc ?_ _));exact BK15.out) hb);have n7_:=a0_ (blk_below (g:=gb19) (o:=.cells #[.slice Ao49 t16.length co49] 37 (0,0)) (by (with_reducible repeat (first | refine blk_drewN ?_ _ | refine blk_drew ?_ | refine blk_alloc ?_ _));refine blk_put (cs:=#[.slice none 0 0]) ?_ 0 _ rfl;(with_reducible repeat (first | refine blk_drewN ?_ _ | refine blk_drew ?_ | refine blk_alloc ?_ _));exact BK19.out) hb);have n8_:=a0_ (below_step hb_ hb);clear HO7 HO10;clear HO14 HO18;clear BK1 BK2;clear BK15 BK19 HB;have HO7:=n0_;have HO10:=n1_;have HO14:=n2_;have HO18:=n3_;have BK1:=n4_;have BK2:=n5_;have BK15:=n6_;have BK19:=n7_;have HB:=n8_;clear n0_ n1_ n2_ n3_ n4_ n5_ n6_ n7_ n8_;(try clear hb);(try clear hb2);(try clear hk);(try clear hi)))
    go_ret
    exact ⟨by first | rfl | (simp [errW_none,errW_some] <;> rfl) | (simp [*,errW_none,errW_some] <;> rfl),hb_⟩
   ·rw [if_neg c25] at H
    have c25b0 : (t20 != t11) = false:=by simpa using c25
    (try (have c25b1 : decide (t20 = t11) = true:=by simpa using c25))
    (try (have c25b2 : (t20 == t11) = true:=by simpa using c25))
    clear c25
    replace H:=Option.bind_eq_some_iff.mp H
    obtain ⟨t21,A560,H⟩:=H
    replace H : ((laws_eqTree.f k t12 t21).bind fun t24=>(if t24 = true then ((laws_toHeap.f k l1_0).bind fun t25=>((laws_eqHeap.f k t16 t25).bind fun t28=>(if t28 = true then (some true) else (some false)))) else (some false))) = some r:=H
    have A56:=a0_ A560
    clear A560
    replace H:=Option.bind_eq_some_iff.mp H
    obtain ⟨t24,A570,H⟩:=H
    replace H : (if t24 = true then ((laws_toHeap.f k l1_0).bind fun t25=>((laws_eqHeap.f k t16 t25).bind fun t28=>(if t28 = true then (some true) else (some false)))) else (some false)) = some r:=H
    have A57:=a0_ A570
    clear A570
    by_cases c58 : t24 = true
    ·subst c58
     have H1 : ((laws_toHeap.f k l1_0).bind fun t25=>((laws_eqHeap.f k t16 t25).bind fun t28=>(if t28 = true then (some true) else (some false)))) = some r:=by rw [if_pos rfl] at H;exact H
     clear H
     have H:=H1
     clear H1
     replace H:=Option.bind_eq_some_iff.mp H
     obtain ⟨t25,A590,H⟩:=H
     replace H : ((laws_eqHeap.f k t16 t25).bind fun t28=>(if t28 = true then (some true) else (some false))) = some r:=H
     have A59:=a0_ A590
     clear A590
     replace H:=Option.bind_eq_some_iff.mp H
     obtain ⟨t28,A600,H⟩:=H
     replace H : (if t28 = true then (some true) else (some false)) = some r:=H
     have A60:=a0_ A600
     clear A600
     by_cases c61 : t28 = true
     ·subst c61
      have H1 : (some true) = some r:=by rw [if_pos rfl] at H;exact H
      clear H
      have H:=H1
      clear H1
      obtain rfl:=Option.some.inj H
      go_enter Try.func3,Try.ntmps3
      try go_wp2_with (first | ((with_reducible refine gate_dst (N:=2) rfl ?_);refine box_event ?hg (N:=2) ?hd (cs:=#[.slice A0_0 l0_0.length c0_0]) (t:=24) ?hr ?_;(case hd=>rfl);(case hg=>rfl);(case hr=>first | (go_simp;done) | (go_simp;rfl));intro gb1 hg w62 hbox hb;have n0_:=a0_ (below_step hb_ hb);have n1_:=a0_ (hbox);have n2_:=a0_ ((by rw [hg];exact (below_size hb_) : w.heap.size ≤ gb1));have n3_:=a0_ ((by rw [hg];exact (below_size hb_) : w.heap.size ≤ gb1));clear HB;have HB:=n0_;have BK1:=n1_;have GW1:=n2_;have GE1:=n3_;clear n0_ n1_ n2_ n3_;clear hb hbox hg) | ((with_reducible refine gate_dst (N:=3) rfl ?_);refine box_event ?hg (N:=3) ?hd (cs:=#[.slice A1_0 l1_0.length c1_0]) (t:=27) ?hr ?_;(case hd=>rfl);(case hg=>rfl);(case hr=>first | (go_simp;done) | (go_simp;rfl));intro gb2 hg w63 hbox hb;have n0_:=a0_ (blk_below (g:=gb1) (o:=.cells #[.slice A0_0 l0_0.length c0_0] 24 (0,0)) (bb_ BK1.out) hb);have n1_:=a0_ (below_step hb_ hb);have n2_:=a0_ (hbox);have n3_:=a0_ ((by rw [hg];exact (below_size hb_) : w.heap.size ≤ gb2));have n4_:=a0_ ((by rw [hg];exact (below_size hb_) : w.heap.size ≤ gb2));have n5_:=a0_ ((by rw [hg];exact Nat.ne_of_lt (blk_lt (g:=gb1) (o:=.cells #[.slice A0_0 l0_0.length c0_0] 24 (0,0)) (bb_ BK1.out)) : gb1 ≠ gb2));have n6_:=a0_ ((by rw [hg];exact Nat.ne_of_gt (blk_lt (g:=gb1) (o:=.cells #[.slice A0_0 l0_0.length c0_0] 24 (0,0)) (bb_ BK1.out)) : gb2 ≠ gb1));clear BK1 HB;have BK1:=n0_;have HB:=n1_;have BK2:=n2_;have GW2:=n3_;have GE2:=n4_;have NB1_2:=n5_;have NB2_1:=n6_;clear n0_ n1_ n2_ n3_ n4_ n5_ n6_;clear hb hbox hg;have hnb64:=NB1_2.out;have hnc64:=NB2_1.out;have hcz65_0 : w63.cell? ⟨gb1,0,none⟩ = some (.slice A0_0 l0_0.length c0_0):=(blk_cell BK1.out 0).trans rfl;have hfz65_0:=blk_frozen BK1.out 0) | ((with_reducible refine gate_callee (f:=14) rfl ?_);refine goesL_ (some 12) rfl rfl Try.func14 (by kernel_rfl) rfl #[.agg #[.slice A0_0 l0_0.length c0_0],.int .i64 1048576] rfl lm_ ?_;(with_reducible refine (laws_szTree.calls k _ _ l0_0 1048576 t3 _ ?side1 ?side2 A3.out).mono ?_);(case side1=>exact cc_ (Kd.C_below HR0_0.out HB.out));(case side2=>exact HC0_0.out);rintro e w66 ⟨rfl,hb⟩;refine ⟨_,rfl,?_⟩;have n0_:=a0_ (blk_below (g:=gb1) (o:=.cells #[.slice A0_0 l0_0.length c0_0] 24 (0,0)) (bb_ BK1.out) hb);have n1_:=a0_ (blk_below (g:=gb2) (o:=.cells #[.slice A1_0 l1_0.length c1_0] 27 (0,0)) (bb_ BK2.out) hb);have n2_:=a0_ (below_step hb_ hb);clear BK1 BK2 HB;have BK1:=n0_;have BK2:=n1_;have HB:=n2_;clear n0_ n1_ n2_;(try clear hb);(try clear hb2);(try clear hk);(try clear hi);have hcz67_0 : w66.cell? ⟨gb2,0,none⟩ = some (.slice A1_0 l1_0.length c1_0):=(blk_cell BK2.out 0).trans rfl;have hfz67_0:=blk_frozen BK2.out 0) | ((with_reducible refine gate_callee (f:=15) rfl ?_);refine goesL_ (some 17) rfl rfl Try.func15 (by kernel_rfl) rfl #[.agg #[.slice A1_0 l1_0.length c1_0],.int .i64 t3] rfl lm_ ?_;(with_reducible refine (laws_szHeap.calls _ _ l1_0 t3 t4 _ ?side1 ?side2 A10.out).mono ?_);(case side1=>exact cc_ (Kd.C_below HR1_0.out HB.out));(case side2=>exact HC1_0.out);rintro e w68 ⟨rfl,hb⟩;refine ⟨_,rfl,?_⟩;have n0_:=a0_ (blk_below (g:=gb1) (o:=.cells #[.slice A0_0 l0_0.length c0_0] 24 (0,0)) (bb_ BK1.out) hb);have n1_:=a0_ (blk_below (g:=gb2) (o:=.cells #[.slice A1_0 l1_0.length c1_0] 27 (0,0)) (bb_ BK2.out) hb);have n2_:=a0_ (below_step hb_ hb);clear BK1 BK2 HB;have BK1:=n0_;have BK2:=n1_;have HB:=n2_;clear n0_ n1_ n2_;(try clear hb);(try clear hb2);(try clear hk);(try clear hi)))
      have n0_:=a0_ (blk_drew BK1.out)
      have n1_:=a0_ (blk_drew BK2.out)
      have n2_:=a0_ (below_drew1 HB.out)
      clear BK1
      clear BK2
      clear HB
      have BK1:=n0_
      have BK2:=n1_
      have HB:=n2_
      clear n0_ n1_ n2_
      refine start_ (n:=6) (S:=fun w'=>w'.cell? ⟨gb1,0,none⟩ = some (.slice A0_0 l0_0.length c0_0) ∧ w'.cell? ⟨gb2,0,none⟩ = some (.slice A1_0 l1_0.length c1_0)) (ds:=[]) #[false,false,false,false,false,false] (by kernel_rfl) rfl rfl ⟨(blk_cell BK1.out 0).trans rfl,(blk_cell BK2.out 0).trans rfl⟩ (fun hHeld=>?_)
      generalize w68.drew = w69 at BK1 BK2 HB hHeld ⊢
      refine take_ (i:=0) (N:=some 20) (v:=?_) (a':=?_) #[true,false,false,false,false,false] rfl rfl (by kernel_rfl) (fun _ _ _ h=>h) (Or.inl ⟨by rfl,?_⟩) hHeld ?_ ?_
      rotate_left
      ·rintro w' ⟨s0,s1⟩
       go_simp
       with_reducible rfl
      rotate_left
      ·simp only [Act.put,List.setIfInBounds_toArray,List.set_cons_zero,List.set_cons_succ,i64_w,i32_w]
       rfl
      refine take_ (i:=2) (N:=some 22) (v:=?_) (a':=?_) #[true,false,true,false,false,false] rfl rfl (by kernel_rfl) (fun _ _ _ h=>h) (Or.inl ⟨by rfl,?_⟩) hHeld ?_ ?_
      rotate_left
      ·rintro w' ⟨s0,s1⟩
       go_simp
       with_reducible rfl
      rotate_left
      ·simp only [Act.put,List.setIfInBounds_toArray,List.set_cons_zero,List.set_cons_succ,i64_w,i32_w]
       rfl
      refine one_ (i:=1) (N:=some 21) #[true,true,true,false,false,false] rfl rfl (by kernel_rfl) (by decide) (fun K hK=>?_)
      refine goes_ Try.func17 (by kernel_rfl) rfl #[.agg #[.slice A0_0 l0_0.length c0_0]] (by rfl) rfl rfl lm_ ?_
      with_reducible refine (laws_toTree.calls k _ _ l0_0 t5 _ ?side1 ?side2 A19.out).mono ?_
      (case side1=>exact cc_ (Kd.C_below HR0_0.out HB.out))
      (case side2=>exact HC0_0.out)
      rintro e w70 ⟨v6,rfl,ho0,hb⟩
      refine ⟨_,rfl,?_⟩
      have n0_:=a0_ (Kd.R_lower ho0 (below_size hb_))
      have n1_:=a0_ (blk_below (g:=gb1) (o:=.cells #[.slice A0_0 l0_0.length c0_0] 24 (0,0)) (bb_ BK1.out) hb)
      have n2_:=a0_ (blk_below (g:=gb2) (o:=.cells #[.slice A1_0 l1_0.length c1_0] 27 (0,0)) (bb_ BK2.out) hb)
      have n3_:=a0_ (below_step hb_ hb)
      clear BK1
      clear BK2
      clear HB
      have HO7:=n0_
      have BK1:=n1_
      have BK2:=n2_
      have HB:=n3_
      clear n0_ n1_ n2_ n3_
      (try clear hb)
      (try clear hb2)
      (try clear hk)
      (try clear hi)
      (try clear ho0)
      refine hK.out _ _ ⟨(blk_cell BK1.out 0).trans rfl,(blk_cell BK2.out 0).trans rfl⟩ (fun hHeld=>?_)
      clear hK K
      refine norm_ (a':=?_) ?_ ?_
      rotate_left
      ·show Act.put _ (some 21) _ = _
       simp only [Act.put,List.setIfInBounds_toArray,List.set_cons_zero,List.set_cons_succ,i64_w,i32_w]
       rfl
      refine one_ (i:=3) (N:=some 23) #[true,true,true,true,false,false] rfl rfl (by kernel_rfl) (by decide) (fun K hK=>?_)
      refine goes_ Try.func18 (by kernel_rfl) rfl #[.agg #[.slice A1_0 l1_0.length c1_0]] (by rfl) rfl rfl lm_ ?_
      with_reducible refine (laws_toHeap.calls k _ _ l1_0 t8 _ ?side1 ?side2 A20.out).mono ?_
      (case side1=>exact cc_ (Kd.C_below HR1_0.out HB.out))
      (case side2=>exact HC1_0.out)
      rintro e w71 ⟨v9,rfl,ho0,hb⟩
      refine ⟨_,rfl,?_⟩
      have n0_:=a0_ (Kd.R_below (rr_ HO7.out) hb)
      have n1_:=a0_ (Kd.R_lower ho0 (below_size hb_))
      have n2_:=a0_ (blk_below (g:=gb1) (o:=.cells #[.slice A0_0 l0_0.length c0_0] 24 (0,0)) (bb_ BK1.out) hb)
      have n3_:=a0_ (blk_below (g:=gb2) (o:=.cells #[.slice A1_0 l1_0.length c1_0] 27 (0,0)) (bb_ BK2.out) hb)
      have n4_:=a0_ (below_step hb_ hb)
      clear HO7
      clear BK1
      clear BK2
      clear HB
      have HO7:=n0_
      have HO10:=n1_
      have BK1:=n2_
      have BK2:=n3_
      have HB:=n4_
      clear n0_ n1_ n2_ n3_ n4_
      (try clear hb)
      (try clear hb2)
      (try clear hk)
      (try clear hi)
      (try clear ho0)
      obtain ⟨Ao72,co72,eo72⟩:=Kd.R_slice HO7.out
      (first | subst eo72 | (injection eo72 with f1_ f2_ f3_;have f4_:=f1_.symm;have f5_:=f3_.symm;clear f1_ f2_ f3_;subst f4_;subst f5_))
      obtain ⟨Ao73,co73,eo73⟩:=Kd.R_slice HO10.out
      (first | subst eo73 | (injection eo73 with f1_ f2_ f3_;have f4_:=f1_.symm;have f5_:=f3_.symm;clear f1_ f2_ f3_;subst f4_;subst f5_))
      refine hK.out _ _ ⟨(blk_cell BK1.out 0).trans rfl,(blk_cell BK2.out 0).trans rfl⟩ (fun hHeld=>?_)
      clear hK K
      refine norm_ (a':=?_) ?_ ?_
      rotate_left
      ·show Act.put _ (some 23) _ = _
       simp only [Act.put,List.setIfInBounds_toArray,List.set_cons_zero,List.set_cons_succ,i64_w,i32_w]
       rfl
      refine one_ (i:=4) (N:=some 24) #[true,true,true,true,true,false] rfl rfl (by kernel_rfl) (by decide) (fun K hK=>?_)
      refine goes_ Try.func16 (by kernel_rfl) rfl #[.agg #[.slice Ao72 t5.length co72],.agg #[.slice Ao73 t8.length co73]] (by rfl) rfl rfl lm_ ?_
      with_reducible refine (spec_ValidHeap.calls k _ _ t5 _ _ t8 t11 _ ?side1 ?side2 ?side3 ?side4 A21.out).mono ?_
      (case side1=>repeat (first | exact (Kd.R_reads' HO7.out).2.2 | (with_reducible refine Kd.C_alloc ?_ _) | (with_reducible refine Kd.C_drewN ?_ _) | (with_reducible refine Kd.C_drew ?_)))
      (case side2=>exact (Kd.R_reads' HO7.out).2.1)
      (case side3=>repeat (first | exact (Kd.R_reads' HO10.out).2.2 | (with_reducible refine Kd.C_alloc ?_ _) | (with_reducible refine Kd.C_drewN ?_ _) | (with_reducible refine Kd.C_drew ?_)))
      (case side4=>exact (Kd.R_reads' HO10.out).2.1)
      rintro e w74 ⟨rfl,hb⟩
      refine ⟨_,rfl,?_⟩
      have n0_:=a0_ (Kd.R_below (rr_ HO7.out) hb)
      have n1_:=a0_ (Kd.R_below (rr_ HO10.out) hb)
      have n2_:=a0_ (blk_below (g:=gb1) (o:=.cells #[.slice A0_0 l0_0.length c0_0] 24 (0,0)) (bb_ BK1.out) hb)
      have n3_:=a0_ (blk_below (g:=gb2) (o:=.cells #[.slice A1_0 l1_0.length c1_0] 27 (0,0)) (bb_ BK2.out) hb)
      have n4_:=a0_ (below_step hb_ hb)
      clear HO7
      clear HO10
      clear BK1
      clear BK2
      clear HB
      have HO7:=n0_
      have HO10:=n1_
      have BK1:=n2_
      have BK2:=n3_
      have HB:=n4_
      clear n0_ n1_ n2_ n3_ n4_
      (try clear hb)
      (try clear hb2)
      (try clear hk)
      (try clear hi)
      refine hK.out _ _ ⟨(blk_cell BK1.out 0).trans rfl,(blk_cell BK2.out 0).trans rfl⟩ (fun hHeld=>?_)
      clear hK K
      refine norm_ (a':=?_) ?_ ?_
      rotate_left
      ·show Act.put _ (some 24) _ = _
       simp only [Act.put,List.setIfInBounds_toArray,List.set_cons_zero,List.set_cons_succ,i64_w,i32_w]
       rfl
      refine pure_ (i:=5) (N:=some 6) (v:=?_) (a':=?_) #[true,true,true,true,true,true] rfl rfl (by kernel_rfl) (fun _ _ _ h=>h) (Or.inl ⟨by rfl,?_⟩) ?_ ?_
      rotate_left
      ·intro w'
       go_simp
       with_reducible rfl
      rotate_left
      ·simp only [Act.put,List.setIfInBounds_toArray,List.set_cons_zero,List.set_cons_succ,i64_w,i32_w]
       rfl
      refine done_ (by kernel_rfl) ?_
      have hcz75_0 : w74.cell? ⟨gb1,0,none⟩ = some (.slice A0_0 l0_0.length c0_0):=(blk_cell BK1.out 0).trans rfl
      have hfz75_0:=blk_frozen BK1.out 0
      try go_wp2_with (first | ((with_reducible refine gate_callee (f:=17) rfl ?_);refine goesL_ (some 26) rfl rfl Try.func17 (by kernel_rfl) rfl #[.agg #[.slice A0_0 l0_0.length c0_0]] rfl lm_ ?_;(with_reducible refine (laws_toTree.calls k _ _ l0_0 t12 _ ?side1 ?side2 A22.out).mono ?_);(case side1=>exact cc_ (Kd.C_below HR0_0.out HB.out));(case side2=>exact HC0_0.out);rintro e w76 ⟨v13,rfl,ho0,hb⟩;refine ⟨_,rfl,?_⟩;have n0_:=a0_ (Kd.R_elder' (rr_ HO7.out) (Kd.R_base ho0) hb);have n1_:=a0_ (Kd.R_below (rr_ HO10.out) hb);have n2_:=a0_ (Kd.R_lower (Kd.R_new' ho0 (Kd.R_lt (rr_ HO7.out))) (below_size hb_));have n3_:=a0_ (blk_below (g:=gb1) (o:=.cells #[.slice A0_0 l0_0.length c0_0] 24 (0,0)) (bb_ BK1.out) hb);have n4_:=a0_ (blk_below (g:=gb2) (o:=.cells #[.slice A1_0 l1_0.length c1_0] 27 (0,0)) (bb_ BK2.out) hb);have n5_:=a0_ (below_step hb_ hb);clear HO7 HO10;clear BK1 BK2 HB;have HO7:=n0_;have HO10:=n1_;have HO14:=n2_;have BK1:=n3_;have BK2:=n4_;have HB:=n5_;clear n0_ n1_ n2_ n3_ n4_ n5_;(try clear hb);(try clear hb2);(try clear hk);(try clear hi);(try clear ho0)) | ((with_reducible refine gate_dst (N:=7) rfl ?_);refine box_event ?hg (N:=7) ?hd (cs:=#[.slice none 0 0]) (t:=33) ?hr ?_;(case hd=>rfl);(case hg=>rfl);(case hr=>first | (go_simp;done) | (go_simp;rfl));intro gb15 hg w77 hbox hb;have n0_:=a0_ (Kd.R_below (rr_ HO7.out) hb);have n1_:=a0_ (Kd.R_below (rr_ HO10.out) hb);have n2_:=a0_ (Kd.R_below (rr_ HO14.out) hb);have n3_:=a0_ (blk_below (g:=gb1) (o:=.cells #[.slice A0_0 l0_0.length c0_0] 24 (0,0)) (bb_ BK1.out) hb);have n4_:=a0_ (blk_below (g:=gb2) (o:=.cells #[.slice A1_0 l1_0.length c1_0] 27 (0,0)) (bb_ BK2.out) hb);have n5_:=a0_ (below_step hb_ hb);have n6_:=a0_ (hbox);have n7_:=a0_ ((by rw [hg];exact (below_size hb_) : w.heap.size ≤ gb15));have n8_:=a0_ ((by rw [hg];exact (below_size hb_) : w.heap.size ≤ gb15));have n9_:=a0_ ((by rw [hg];exact Nat.ne_of_lt (blk_lt (g:=gb1) (o:=.cells #[.slice A0_0 l0_0.length c0_0] 24 (0,0)) (bb_ BK1.out)) : gb1 ≠ gb15));have n10_:=a0_ ((by rw [hg];exact Nat.ne_of_gt (blk_lt (g:=gb1) (o:=.cells #[.slice A0_0 l0_0.length c0_0] 24 (0,0)) (bb_ BK1.out)) : gb15 ≠ gb1));have n11_:=a0_ ((by rw [hg];exact Nat.ne_of_lt (blk_lt (g:=gb2) (o:=.cells #[.slice A1_0 l1_0.length c1_0] 27 (0,0)) (bb_ BK2.out)) : gb2 ≠ gb15));have n12_:=a0_ ((by rw [hg];exact Nat.ne_of_gt (blk_lt (g:=gb2) (o:=.cells #[.slice A1_0 l1_0.length c1_0] 27 (0,0)) (bb_ BK2.out)) : gb15 ≠ gb2));clear HO7 HO10;clear HO14 BK1;clear BK2 HB;have HO7:=n0_;have HO10:=n1_;have HO14:=n2_;have BK1:=n3_;have BK2:=n4_;have HB:=n5_;have BK15:=n6_;have GW15:=n7_;have GE15:=n8_;have NB1_15:=n9_;have NB15_1:=n10_;have NB2_15:=n11_;have NB15_2:=n12_;clear n0_ n1_ n2_ n3_ n4_ n5_ n6_ n7_ n8_ n9_ n10_ n11_ n12_;clear hb hbox hg;obtain ⟨Ao78,co78,eo78⟩:=Kd.R_slice HO14.out;subst eo78;have hnb79:=NB15_1.out;have hnc79:=NB1_15.out;have hnb80:=NB15_2.out;have hnc80:=NB2_15.out;have hcz81_0 : w77.cell? ⟨gb15,0,none⟩ = some (.slice none 0 0):=(blk_cell BK15.out 0).trans rfl;have hfz81_0:=blk_frozen BK15.out 0;have hcz82_0 : w77.cell? ⟨gb2,0,none⟩ = some (.slice A1_0 l1_0.length c1_0):=(blk_cell BK2.out 0).trans rfl;have hfz82_0:=blk_frozen BK2.out 0) | ((with_reducible refine gate_callee (f:=18) rfl ?_);refine goesL_ (some 28) rfl rfl Try.func18 (by kernel_rfl) rfl #[.agg #[.slice A1_0 l1_0.length c1_0]] rfl lm_ ?_;(with_reducible refine (laws_toHeap.calls k _ _ l1_0 t16 _ ?side1 ?side2 A23.out).mono ?_);(case side1=>exact Kd.C_below HR1_0.out hb_);(case side2=>exact HC1_0.out);rintro e w83 ⟨v17,rfl,ho0,hb⟩;refine ⟨_,rfl,?_⟩;have n0_:=a0_ (Kd.R_below (by (with_reducible repeat (first | apply Kd.R_alloc | apply Kd.R_drewN | apply Kd.R_drew));exact (Kd.R_mono (Kd.R_far (p:=⟨gb15,0,none⟩) (Kd.R_types HO7.out BK15.out (by decide)) (fun _ hk=>hk.2) (.slice Ao78 t12.length co78)) (fun _ h_=>h_.1))) hb);have n1_:=a0_ (Kd.R_elder' (by (with_reducible repeat (first | apply Kd.R_alloc | apply Kd.R_drewN | apply Kd.R_drew));exact (Kd.R_mono (Kd.R_far (p:=⟨gb15,0,none⟩) (Kd.R_types HO10.out BK15.out (by decide)) (fun _ hk=>hk.2) (.slice Ao78 t12.length co78)) (fun _ h_=>h_.1))) (Kd.R_base ho0) hb);have n2_:=a0_ (Kd.R_below (by (with_reducible repeat (first | apply Kd.R_alloc | apply Kd.R_drewN | apply Kd.R_drew));exact (Kd.R_mono (Kd.R_far (p:=⟨gb15,0,none⟩) (Kd.R_types HO14.out BK15.out (by decide)) (fun _ hk=>hk.2) (.slice Ao78 t12.length co78)) (fun _ h_=>h_.1))) hb);have n3_:=a0_ (Kd.R_lower (Kd.R_new' ho0 (Kd.R_lt (by (with_reducible repeat (first | apply Kd.R_alloc | apply Kd.R_drewN | apply Kd.R_drew));exact (Kd.R_mono (Kd.R_far (p:=⟨gb15,0,none⟩) (Kd.R_types HO10.out BK15.out (by decide)) (fun _ hk=>hk.2) (.slice Ao78 t12.length co78)) (fun _ h_=>h_.1))))) (below_size hb_));have n4_:=a0_ (blk_below (g:=gb1) (o:=.cells #[.slice A0_0 l0_0.length c0_0] 24 (0,0)) (by (with_reducible repeat (first | refine blk_drewN ?_ _ | refine blk_drew ?_ | refine blk_alloc ?_ _));refine blk_far ?_ NB1_15.out _;(with_reducible repeat (first | refine blk_drewN ?_ _ | refine blk_drew ?_ | refine blk_alloc ?_ _));exact BK1.out) hb);have n5_:=a0_ (blk_below (g:=gb2) (o:=.cells #[.slice A1_0 l1_0.length c1_0] 27 (0,0)) (by (with_reducible repeat (first | refine blk_drewN ?_ _ | refine blk_drew ?_ | refine blk_alloc ?_ _));refine blk_far ?_ NB2_15.out _;(with_reducible repeat (first | refine blk_drewN ?_ _ | refine blk_drew ?_ | refine blk_alloc ?_ _));exact BK2.out) hb);have n6_:=a0_ (blk_below (g:=gb15) (o:=.cells #[.slice Ao78 t12.length co78] 33 (0,0)) (by (with_reducible repeat (first | refine blk_drewN ?_ _ | refine blk_drew ?_ | refine blk_alloc ?_ _));refine blk_put (cs:=#[.slice none 0 0]) ?_ 0 _ rfl;(with_reducible repeat (first | refine blk_drewN ?_ _ | refine blk_drew ?_ | refine blk_alloc ?_ _));exact BK15.out) hb);have n7_:=a0_ (below_step hb_ hb);clear HO7 HO10;clear HO14 BK1;clear BK2 BK15 HB;have HO7:=n0_;have HO10:=n1_;have HO14:=n2_;have HO18:=n3_;have BK1:=n4_;have BK2:=n5_;have BK15:=n6_;have HB:=n7_;clear n0_ n1_ n2_ n3_ n4_ n5_ n6_ n7_;(try clear hb);(try clear hb2);(try clear hk);(try clear hi);(try clear ho0)) | ((with_reducible refine gate_dst (N:=8) rfl ?_);refine box_event ?hg (N:=8) ?hd (cs:=#[.slice none 0 0]) (t:=37) ?hr ?_;(case hd=>rfl);(case hg=>rfl);(case hr=>first | (go_simp;done) | (go_simp;rfl));intro gb19 hg w84 hbox hb;have n0_:=a0_ (Kd.R_below (rr_ HO7.out) hb);have n1_:=a0_ (Kd.R_below (rr_ HO10.out) hb);have n2_:=a0_ (Kd.R_below (rr_ HO14.out) hb);have n3_:=a0_ (Kd.R_below (rr_ HO18.out) hb);have n4_:=a0_ (blk_below (g:=gb1) (o:=.cells #[.slice A0_0 l0_0.length c0_0] 24 (0,0)) (bb_ BK1.out) hb);have n5_:=a0_ (blk_below (g:=gb2) (o:=.cells #[.slice A1_0 l1_0.length c1_0] 27 (0,0)) (bb_ BK2.out) hb);have n6_:=a0_ (blk_below (g:=gb15) (o:=.cells #[.slice Ao78 t12.length co78] 33 (0,0)) (bb_ BK15.out) hb);have n7_:=a0_ (below_step hb_ hb);have n8_:=a0_ (hbox);have n9_:=a0_ ((by rw [hg];exact (below_size hb_) : w.heap.size ≤ gb19));have n10_:=a0_ ((by rw [hg];exact (below_size hb_) : w.heap.size ≤ gb19));have n11_:=a0_ ((by rw [hg];exact Nat.ne_of_lt (blk_lt (g:=gb1) (o:=.cells #[.slice A0_0 l0_0.length c0_0] 24 (0,0)) (bb_ BK1.out)) : gb1 ≠ gb19));have n12_:=a0_ ((by rw [hg];exact Nat.ne_of_gt (blk_lt (g:=gb1) (o:=.cells #[.slice A0_0 l0_0.length c0_0] 24 (0,0)) (bb_ BK1.out)) : gb19 ≠ gb1));have n13_:=a0_ ((by rw [hg];exact Nat.ne_of_lt (blk_lt (g:=gb2) (o:=.cells #[.slice A1_0 l1_0.length c1_0] 27 (0,0)) (bb_ BK2.out)) : gb2 ≠ gb19));have n14_:=a0_ ((by rw [hg];exact Nat.ne_of_gt (blk_lt (g:=gb2) (o:=.cells #[.slice A1_0 l1_0.length c1_0] 27 (0,0)) (bb_ BK2.out)) : gb19 ≠ gb2));have n15_:=a0_ ((by rw [hg];exact Nat.ne_of_lt (blk_lt (g:=gb15) (o:=.cells #[.slice Ao78 t12.length co78] 33 (0,0)) (bb_ BK15.out)) : gb15 ≠ gb19));have n16_:=a0_ ((by rw [hg];exact Nat.ne_of_gt (blk_lt (g:=gb15) (o:=.cells #[.slice Ao78 t12.length co78] 33 (0,0)) (bb_ BK15.out)) : gb19 ≠ gb15));clear HO7 HO10;clear HO14 HO18;clear BK1 BK2;clear BK15 HB;have HO7:=n0_;have HO10:=n1_;have HO14:=n2_;have HO18:=n3_;have BK1:=n4_;have BK2:=n5_;have BK15:=n6_;have HB:=n7_;have BK19:=n8_;have GW19:=n9_;have GE19:=n10_;have NB1_19:=n11_;have NB19_1:=n12_;have NB2_19:=n13_;have NB19_2:=n14_;have NB15_19:=n15_;have NB19_15:=n16_;clear n0_ n1_ n2_ n3_ n4_ n5_ n6_ n7_ n8_ n9_ n10_ n11_ n12_ n13_ n14_ n15_ n16_;clear hb hbox hg;obtain ⟨Ao85,co85,eo85⟩:=Kd.R_slice HO18.out;subst eo85;have hnb86:=NB19_1.out;have hnc86:=NB1_19.out;have hnb87:=NB19_2.out;have hnc87:=NB2_19.out;have hnb88:=NB19_15.out;have hnc88:=NB15_19.out;have hcz89_0 : w84.cell? ⟨gb19,0,none⟩ = some (.slice none 0 0):=(blk_cell BK19.out 0).trans rfl;have hfz89_0:=blk_frozen BK19.out 0;have hcz90_0 : w84.cell? ⟨gb15,0,none⟩ = some (.slice Ao78 t12.length co78):=(blk_cell BK15.out 0).trans rfl;have hfz90_0:=blk_frozen BK15.out 0) | ((with_reducible refine gate_callee (f:=19) rfl ?_);refine goesL_ (some 31) rfl rfl Try.func19 (by kernel_rfl) rfl #[.agg #[.slice Ao78 t12.length co78],.agg #[.slice Ao85 t16.length co85]] rfl lm_ ?_;(with_reducible refine (impl_ValidHeap.calls _ _ t12 _ _ t16 t20 _ ?side1 ?side2 ?side3 ?side4 A24.out).mono ?_);(case side1=>refine (Kd.R_reads' (e:=106) (base:=w.heap.size) (ok:=fun k_=>(True ∧ some k_ ≠ (.slice Ao72 t5.length co72 : Value).ownBlock)) (n:=t12.length) (c:=co78) ?_).2.2;exact (by (with_reducible repeat (first | apply Kd.R_alloc | apply Kd.R_drewN | apply Kd.R_drew));exact (Kd.R_mono (Kd.R_far (p:=⟨gb19,0,none⟩) (Kd.R_types HO14.out BK19.out (by decide)) (fun _ hk=>hk.2) (.slice Ao85 t16.length co85)) (fun _ h_=>h_.1))));(case side2=>exact (Kd.R_reads' HO14.out).2.1);(case side3=>refine (Kd.R_reads' (e:=79) (base:=w.heap.size) (ok:=fun k_=>(True ∧ some k_ ≠ (.slice Ao73 t8.length co73 : Value).ownBlock)) (n:=t16.length) (c:=co85) ?_).2.2;exact (by (with_reducible repeat (first | apply Kd.R_alloc | apply Kd.R_drewN | apply Kd.R_drew));exact (Kd.R_mono (Kd.R_far (p:=⟨gb19,0,none⟩) (Kd.R_types HO18.out BK19.out (by decide)) (fun _ hk=>hk.2) (.slice Ao85 t16.length co85)) (fun _ h_=>h_.1))));(case side4=>exact (Kd.R_reads' HO18.out).2.1);rintro e w91 ⟨rfl,hb⟩;refine ⟨_,rfl,?_⟩;have n0_:=a0_ (Kd.R_below (by (with_reducible repeat (first | apply Kd.R_alloc | apply Kd.R_drewN | apply Kd.R_drew));exact (Kd.R_mono (Kd.R_far (p:=⟨gb19,0,none⟩) (Kd.R_types HO7.out BK19.out (by decide)) (fun _ hk=>hk.2) (.slice Ao85 t16.length co85)) (fun _ h_=>h_.1))) hb);have n1_:=a0_ (Kd.R_below (by (with_reducible repeat (first | apply Kd.R_alloc | apply Kd.R_drewN | apply Kd.R_drew));exact (Kd.R_mono (Kd.R_far (p:=⟨gb19,0,none⟩) (Kd.R_types HO10.out BK19.out (by decide)) (fun _ hk=>hk.2) (.slice Ao85 t16.length co85)) (fun _ h_=>h_.1))) hb);have n2_:=a0_ (Kd.R_below (by (with_reducible repeat (first | apply Kd.R_alloc | apply Kd.R_drewN | apply Kd.R_drew));exact (Kd.R_mono (Kd.R_far (p:=⟨gb19,0,none⟩) (Kd.R_types HO14.out BK19.out (by decide)) (fun _ hk=>hk.2) (.slice Ao85 t16.length co85)) (fun _ h_=>h_.1))) hb);have n3_:=a0_ (Kd.R_below (by (with_reducible repeat (first | apply Kd.R_alloc | apply Kd.R_drewN | apply Kd.R_drew));exact (Kd.R_mono (Kd.R_far (p:=⟨gb19,0,none⟩) (Kd.R_types HO18.out BK19.out (by decide)) (fun _ hk=>hk.2) (.slice Ao85 t16.length co85)) (fun _ h_=>h_.1))) hb);have n4_:=a0_ (blk_below (g:=gb1) (o:=.cells #[.slice A0_0 l0_0.length c0_0] 24 (0,0)) (by (with_reducible repeat (first | refine blk_drewN ?_ _ | refine blk_drew ?_ | refine blk_alloc ?_ _));refine blk_far ?_ NB1_19.out _;(with_reducible repeat (first | refine blk_drewN ?_ _ | refine blk_drew ?_ | refine blk_alloc ?_ _));exact BK1.out) hb);have n5_:=a0_ (blk_below (g:=gb2) (o:=.cells #[.slice A1_0 l1_0.length c1_0] 27 (0,0)) (by (with_reducible repeat (first | refine blk_drewN ?_ _ | refine blk_drew ?_ | refine blk_alloc ?_ _));refine blk_far ?_ NB2_19.out _;(with_reducible repeat (first | refine blk_drewN ?_ _ | refine blk_drew ?_ | refine blk_alloc ?_ _));exact BK2.out) hb);have n6_:=a0_ (blk_below (g:=gb15) (o:=.cells #[.slice Ao78 t12.length co78] 33 (0,0)) (by (with_reducible repeat (first | refine blk_drewN ?_ _ | refine blk_drew ?_ | refine blk_alloc ?_ _));refine blk_far ?_ NB15_19.out _;(with_reducible repeat (first | refine blk_drewN ?_ _ | refine blk_drew ?_ | refine blk_alloc ?_ _));exact BK15.out) hb);have n7_:=a0_ (blk_below (g:=gb19) (o:=.cells #[.slice Ao85 t16.length co85] 37 (0,0)) (by (with_reducible repeat (first | refine blk_drewN ?_ _ | refine blk_drew ?_ | refine blk_alloc ?_ _));refine blk_put (cs:=#[.slice none 0 0]) ?_ 0 _ rfl;(with_reducible repeat (first | refine blk_drewN ?_ _ | refine blk_drew ?_ | refine blk_alloc ?_ _));exact BK19.out) hb);have n8_:=a0_ (below_step hb_ hb);clear HO7 HO10;clear HO14 HO18;clear BK1 BK2;clear BK15 BK19 HB;have HO7:=n0_;have HO10:=n1_;have HO14:=n2_;have HO18:=n3_;have BK1:=n4_;have BK2:=n5_;have BK15:=n6_;have BK19:=n7_;have HB:=n8_;clear n0_ n1_ n2_ n3_ n4_ n5_ n6_ n7_ n8_;(try clear hb);(try clear hb2);(try clear hk);(try clear hi)))
      have n0_:=a0_ (Kd.R_drew HO7.out)
      have n1_:=a0_ (Kd.R_drew HO10.out)
      have n2_:=a0_ (Kd.R_drew HO14.out)
      have n3_:=a0_ (Kd.R_drew HO18.out)
      have n4_:=a0_ (blk_drew BK1.out)
      have n5_:=a0_ (blk_drew BK2.out)
      have n6_:=a0_ (blk_drew BK15.out)
      have n7_:=a0_ (blk_drew BK19.out)
      have n8_:=a0_ (below_drew1 HB.out)
      clear HO7
      clear HO10
      clear HO14
      clear HO18
      clear BK1
      clear BK2
      clear BK15
      clear BK19
      clear HB
      have HO7:=n0_
      have HO10:=n1_
      have HO14:=n2_
      have HO18:=n3_
      have BK1:=n4_
      have BK2:=n5_
      have BK15:=n6_
      have BK19:=n7_
      have HB:=n8_
      clear n0_ n1_ n2_ n3_ n4_ n5_ n6_ n7_ n8_
      refine start_ (n:=5) (S:=fun w'=>w'.cell? ⟨gb15,0,none⟩ = some (.slice Ao78 t12.length co78) ∧ w'.cell? ⟨gb1,0,none⟩ = some (.slice A0_0 l0_0.length c0_0)) (ds:=[]) #[false,false,false,false,false] (by kernel_rfl) rfl rfl ⟨(blk_cell BK15.out 0).trans rfl,(blk_cell BK1.out 0).trans rfl⟩ (fun hHeld=>?_)
      generalize w91.drew = w92 at HO7 HO10 HO14 HO18 BK1 BK2 BK15 BK19 HB hHeld ⊢
      refine take_ (i:=0) (N:=some 35) (v:=?_) (a':=?_) #[true,false,false,false,false] rfl rfl (by kernel_rfl) (fun _ _ _ h=>h) (Or.inl ⟨by rfl,?_⟩) hHeld ?_ ?_
      rotate_left
      ·rintro w' ⟨s0,s1⟩
       go_simp
       with_reducible rfl
      rotate_left
      ·simp only [Act.put,List.setIfInBounds_toArray,List.set_cons_zero,List.set_cons_succ,i64_w,i32_w]
       rfl
      refine take_ (i:=1) (N:=some 36) (v:=?_) (a':=?_) #[true,true,false,false,false] rfl rfl (by kernel_rfl) (fun _ _ _ h=>h) (Or.inl ⟨by rfl,?_⟩) hHeld ?_ ?_
      rotate_left
      ·rintro w' ⟨s0,s1⟩
       go_simp
       with_reducible rfl
      rotate_left
      ·simp only [Act.put,List.setIfInBounds_toArray,List.set_cons_zero,List.set_cons_succ,i64_w,i32_w]
       rfl
      refine one_ (i:=2) (N:=some 37) #[true,true,true,false,false] rfl rfl (by kernel_rfl) (by decide) (fun K hK=>?_)
      refine goes_ Try.func17 (by kernel_rfl) rfl #[.agg #[.slice A0_0 l0_0.length c0_0]] (by rfl) rfl rfl lm_ ?_
      with_reducible refine (laws_toTree.calls k _ _ l0_0 t21 _ ?side1 ?side2 A56.out).mono ?_
      (case side1=>exact cc_ (Kd.C_below HR0_0.out HB.out))
      (case side2=>exact HC0_0.out)
      rintro e w93 ⟨v22,rfl,ho0,hb⟩
      refine ⟨_,rfl,?_⟩
      have n0_:=a0_ (Kd.R_elder' (rr_ HO7.out) (Kd.R_base ho0) hb)
      have n1_:=a0_ (Kd.R_below (rr_ HO10.out) hb)
      have n2_:=a0_ (Kd.R_elder' (rr_ HO14.out) (Kd.R_base ho0) hb)
      have n3_:=a0_ (Kd.R_below (rr_ HO18.out) hb)
      have n4_:=a0_ (Kd.R_lower (Kd.R_new' (Kd.R_new' ho0 (Kd.R_lt (rr_ HO7.out))) (Kd.R_lt (rr_ HO14.out))) (below_size hb_))
      have n5_:=a0_ (blk_below (g:=gb1) (o:=.cells #[.slice A0_0 l0_0.length c0_0] 24 (0,0)) (bb_ BK1.out) hb)
      have n6_:=a0_ (blk_below (g:=gb2) (o:=.cells #[.slice A1_0 l1_0.length c1_0] 27 (0,0)) (bb_ BK2.out) hb)
      have n7_:=a0_ (blk_below (g:=gb15) (o:=.cells #[.slice Ao78 t12.length co78] 33 (0,0)) (bb_ BK15.out) hb)
      have n8_:=a0_ (blk_below (g:=gb19) (o:=.cells #[.slice Ao85 t16.length co85] 37 (0,0)) (bb_ BK19.out) hb)
      have n9_:=a0_ (below_step hb_ hb)
      clear HO7
      clear HO10
      clear HO14
      clear HO18
      clear BK1
      clear BK2
      clear BK15
      clear BK19
      clear HB
      have HO7:=n0_
      have HO10:=n1_
      have HO14:=n2_
      have HO18:=n3_
      have HO23:=n4_
      have BK1:=n5_
      have BK2:=n6_
      have BK15:=n7_
      have BK19:=n8_
      have HB:=n9_
      clear n0_ n1_ n2_ n3_ n4_ n5_ n6_ n7_ n8_ n9_
      (try clear hb)
      (try clear hb2)
      (try clear hk)
      (try clear hi)
      (try clear ho0)
      obtain ⟨Ao94,co94,eo94⟩:=Kd.R_slice HO23.out
      (first | subst eo94 | (injection eo94 with f1_ f2_ f3_;have f4_:=f1_.symm;have f5_:=f3_.symm;clear f1_ f2_ f3_;subst f4_;subst f5_))
      refine hK.out _ _ ⟨(blk_cell BK15.out 0).trans rfl,(blk_cell BK1.out 0).trans rfl⟩ (fun hHeld=>?_)
      clear hK K
      refine norm_ (a':=?_) ?_ ?_
      rotate_left
      ·show Act.put _ (some 37) _ = _
       simp only [Act.put,List.setIfInBounds_toArray,List.set_cons_zero,List.set_cons_succ,i64_w,i32_w]
       rfl
      refine one_ (i:=3) (N:=some 38) #[true,true,true,true,false] rfl rfl (by kernel_rfl) (by decide) (fun K hK=>?_)
      refine goes_ Try.func20 (by kernel_rfl) rfl #[.agg #[.slice Ao78 t12.length co78],.agg #[.slice Ao94 t21.length co94]] (by rfl) rfl rfl lm_ ?_
      with_reducible refine (laws_eqTree.calls k _ _ t12 _ _ t21 true _ ?side1 ?side2 ?side3 ?side4 A57.out).mono ?_
      (case side1=>repeat (first | exact (Kd.R_reads' HO14.out).2.2 | (with_reducible refine Kd.C_alloc ?_ _) | (with_reducible refine Kd.C_drewN ?_ _) | (with_reducible refine Kd.C_drew ?_)))
      (case side2=>exact (Kd.R_reads' HO14.out).2.1)
      (case side3=>repeat (first | exact (Kd.R_reads' HO23.out).2.2 | (with_reducible refine Kd.C_alloc ?_ _) | (with_reducible refine Kd.C_drewN ?_ _) | (with_reducible refine Kd.C_drew ?_)))
      (case side4=>exact (Kd.R_reads' HO23.out).2.1)
      rintro e w95 ⟨rfl,hb⟩
      refine ⟨_,rfl,?_⟩
      have n0_:=a0_ (Kd.R_below (rr_ HO7.out) hb)
      have n1_:=a0_ (Kd.R_below (rr_ HO10.out) hb)
      have n2_:=a0_ (Kd.R_below (rr_ HO14.out) hb)
      have n3_:=a0_ (Kd.R_below (rr_ HO18.out) hb)
      have n4_:=a0_ (Kd.R_below (rr_ HO23.out) hb)
      have n5_:=a0_ (blk_below (g:=gb1) (o:=.cells #[.slice A0_0 l0_0.length c0_0] 24 (0,0)) (bb_ BK1.out) hb)
      have n6_:=a0_ (blk_below (g:=gb2) (o:=.cells #[.slice A1_0 l1_0.length c1_0] 27 (0,0)) (bb_ BK2.out) hb)
      have n7_:=a0_ (blk_below (g:=gb15) (o:=.cells #[.slice Ao78 t12.length co78] 33 (0,0)) (bb_ BK15.out) hb)
      have n8_:=a0_ (blk_below (g:=gb19) (o:=.cells #[.slice Ao85 t16.length co85] 37 (0,0)) (bb_ BK19.out) hb)
      have n9_:=a0_ (below_step hb_ hb)
      clear HO7
      clear HO10
      clear HO14
      clear HO18
      clear HO23
      clear BK1
      clear BK2
      clear BK15
      clear BK19
      clear HB
      have HO7:=n0_
      have HO10:=n1_
      have HO14:=n2_
      have HO18:=n3_
      have HO23:=n4_
      have BK1:=n5_
      have BK2:=n6_
      have BK15:=n7_
      have BK19:=n8_
      have HB:=n9_
      clear n0_ n1_ n2_ n3_ n4_ n5_ n6_ n7_ n8_ n9_
      (try clear hb)
      (try clear hb2)
      (try clear hk)
      (try clear hi)
      refine hK.out _ _ ⟨(blk_cell BK15.out 0).trans rfl,(blk_cell BK1.out 0).trans rfl⟩ (fun hHeld=>?_)
      clear hK K
      refine norm_ (a':=?_) ?_ ?_
      rotate_left
      ·show Act.put _ (some 38) _ = _
       simp only [Act.put,List.setIfInBounds_toArray,List.set_cons_zero,List.set_cons_succ,i64_w,i32_w]
       rfl
      refine pure_ (i:=4) (N:=some 39) (v:=?_) (a':=?_) #[true,true,true,true,true] rfl rfl (by kernel_rfl) (fun _ _ _ h=>h) (Or.inl ⟨by rfl,?_⟩) ?_ ?_
      rotate_left
      ·intro w'
       go_simp
       with_reducible rfl
      rotate_left
      ·simp only [Act.put,List.setIfInBounds_toArray,List.set_cons_zero,List.set_cons_succ,i64_w,i32_w]
       rfl
      refine done_ (by kernel_rfl) ?_
      try go_wp2
      have n0_:=a0_ (Kd.R_drew HO7.out)
      have n1_:=a0_ (Kd.R_drew HO10.out)
      have n2_:=a0_ (Kd.R_drew HO14.out)
      have n3_:=a0_ (Kd.R_drew HO18.out)
      have n4_:=a0_ (Kd.R_drew HO23.out)
      have n5_:=a0_ (blk_drew BK1.out)
      have n6_:=a0_ (blk_drew BK2.out)
      have n7_:=a0_ (blk_drew BK15.out)
      have n8_:=a0_ (blk_drew BK19.out)
      have n9_:=a0_ (below_drew1 HB.out)
      clear HO7
      clear HO10
      clear HO14
      clear HO18
      clear HO23
      clear BK1
      clear BK2
      clear BK15
      clear BK19
      clear HB
      have HO7:=n0_
      have HO10:=n1_
      have HO14:=n2_
      have HO18:=n3_
      have HO23:=n4_
      have BK1:=n5_
      have BK2:=n6_
      have BK15:=n7_
      have BK19:=n8_
      have HB:=n9_
      clear n0_ n1_ n2_ n3_ n4_ n5_ n6_ n7_ n8_ n9_
      refine start_ (n:=5) (S:=fun w'=>w'.cell? ⟨gb19,0,none⟩ = some (.slice Ao85 t16.length co85) ∧ w'.cell? ⟨gb2,0,none⟩ = some (.slice A1_0 l1_0.length c1_0)) (ds:=[]) #[false,false,false,false,false] (by kernel_rfl) rfl rfl ⟨(blk_cell BK19.out 0).trans rfl,(blk_cell BK2.out 0).trans rfl⟩ (fun hHeld=>?_)
      generalize w95.drew = w96 at HO7 HO10 HO14 HO18 HO23 BK1 BK2 BK15 BK19 HB hHeld ⊢
      refine take_ (i:=0) (N:=some 40) (v:=?_) (a':=?_) #[true,false,false,false,false] rfl rfl (by kernel_rfl) (fun _ _ _ h=>h) (Or.inl ⟨by rfl,?_⟩) hHeld ?_ ?_
      rotate_left
      ·rintro w' ⟨s0,s1⟩
       go_simp
       with_reducible rfl
      rotate_left
      ·simp only [Act.put,List.setIfInBounds_toArray,List.set_cons_zero,List.set_cons_succ,i64_w,i32_w]
       rfl
      refine take_ (i:=1) (N:=some 41) (v:=?_) (a':=?_) #[true,true,false,false,false] rfl rfl (by kernel_rfl) (fun _ _ _ h=>h) (Or.inl ⟨by rfl,?_⟩) hHeld ?_ ?_
      rotate_left
      ·rintro w' ⟨s0,s1⟩
       go_simp
       with_reducible rfl
      rotate_left
      ·simp only [Act.put,List.setIfInBounds_toArray,List.set_cons_zero,List.set_cons_succ,i64_w,i32_w]
       rfl
      refine one_ (i:=2) (N:=some 42) #[true,true,true,false,false] rfl rfl (by kernel_rfl) (by decide) (fun K hK=>?_)
      refine goes_ Try.func18 (by kernel_rfl) rfl #[.agg #[.slice A1_0 l1_0.length c1_0]] (by rfl) rfl rfl lm_ ?_
      with_reducible refine (laws_toHeap.calls k _ _ l1_0 t25 _ ?side1 ?side2 A59.out).mono ?_
      (case side1=>exact cc_ (Kd.C_below HR1_0.out HB.out))
      (case side2=>exact HC1_0.out)
      rintro e w97 ⟨v26,rfl,ho0,hb⟩
      refine ⟨_,rfl,?_⟩
      have n0_:=a0_ (Kd.R_below (rr_ HO7.out) hb)
      have n1_:=a0_ (Kd.R_elder' (rr_ HO10.out) (Kd.R_base ho0) hb)
      have n2_:=a0_ (Kd.R_below (rr_ HO14.out) hb)
      have n3_:=a0_ (Kd.R_elder' (rr_ HO18.out) (Kd.R_base ho0) hb)
      have n4_:=a0_ (Kd.R_below (rr_ HO23.out) hb)
      have n5_:=a0_ (Kd.R_lower (Kd.R_new' (Kd.R_new' ho0 (Kd.R_lt (rr_ HO10.out))) (Kd.R_lt (rr_ HO18.out))) (below_size hb_))
      have n6_:=a0_ (blk_below (g:=gb1) (o:=.cells #[.slice A0_0 l0_0.length c0_0] 24 (0,0)) (bb_ BK1.out) hb)
      have n7_:=a0_ (blk_below (g:=gb2) (o:=.cells #[.slice A1_0 l1_0.length c1_0] 27 (0,0)) (bb_ BK2.out) hb)
      have n8_:=a0_ (blk_below (g:=gb15) (o:=.cells #[.slice Ao78 t12.length co78] 33 (0,0)) (bb_ BK15.out) hb)
      have n9_:=a0_ (blk_below (g:=gb19) (o:=.cells #[.slice Ao85 t16.length co85] 37 (0,0)) (bb_ BK19.out) hb)
      have n10_:=a0_ (below_step hb_ hb)
      clear HO7
      clear HO10
      clear HO14
      clear HO18
      clear HO23
      clear BK1
      clear BK2
      clear BK15
      clear BK19
      clear HB
      have HO7:=n0_
      have HO10:=n1_
      have HO14:=n2_
      have HO18:=n3_
      have HO23:=n4_
      have HO27:=n5_
      have BK1:=n6_
      have BK2:=n7_
      have BK15:=n8_
      have BK19:=n9_
      have HB:=n10_
      clear n0_ n1_ n2_ n3_ n4_ n5_ n6_ n7_ n8_ n9_ n10_
      (try clear hb)
      (try clear hb2)
      (try clear hk)
      (try clear hi)
      (try clear ho0)
      obtain ⟨Ao98,co98,eo98⟩:=Kd.R_slice HO27.out
      (first | subst eo98 | (injection eo98 with f1_ f2_ f3_;have f4_:=f1_.symm;have f5_:=f3_.symm;clear f1_ f2_ f3_;subst f4_;subst f5_))
      refine hK.out _ _ ⟨(blk_cell BK19.out 0).trans rfl,(blk_cell BK2.out 0).trans rfl⟩ (fun hHeld=>?_)
      clear hK K
      refine norm_ (a':=?_) ?_ ?_
      rotate_left
      ·show Act.put _ (some 42) _ = _
       simp only [Act.put,List.setIfInBounds_toArray,List.set_cons_zero,List.set_cons_succ,i64_w,i32_w]
       rfl
      refine one_ (i:=3) (N:=some 43) #[true,true,true,true,false] rfl rfl (by kernel_rfl) (by decide) (fun K hK=>?_)
      refine goes_ Try.func21 (by kernel_rfl) rfl #[.agg #[.slice Ao85 t16.length co85],.agg #[.slice Ao98 t25.length co98]] (by rfl) rfl rfl lm_ ?_
      with_reducible refine (laws_eqHeap.calls k _ _ t16 _ _ t25 true _ ?side1 ?side2 ?side3 ?side4 A60.out).mono ?_
      (case side1=>repeat (first | exact (Kd.R_reads' HO18.out).2.2 | (with_reducible refine Kd.C_alloc ?_ _) | (with_reducible refine Kd.C_drewN ?_ _) | (with_reducible refine Kd.C_drew ?_)))
      (case side2=>exact (Kd.R_reads' HO18.out).2.1)
      (case side3=>repeat (first | exact (Kd.R_reads' HO27.out).2.2 | (with_reducible refine Kd.C_alloc ?_ _) | (with_reducible refine Kd.C_drewN ?_ _) | (with_reducible refine Kd.C_drew ?_)))
      (case side4=>exact (Kd.R_reads' HO27.out).2.1)
      rintro e w99 ⟨rfl,hb⟩
      refine ⟨_,rfl,?_⟩
      have n0_:=a0_ (Kd.R_below (rr_ HO7.out) hb)
      have n1_:=a0_ (Kd.R_below (rr_ HO10.out) hb)
      have n2_:=a0_ (Kd.R_below (rr_ HO14.out) hb)
      have n3_:=a0_ (Kd.R_below (rr_ HO18.out) hb)
      have n4_:=a0_ (Kd.R_below (rr_ HO23.out) hb)
      have n5_:=a0_ (Kd.R_below (rr_ HO27.out) hb)
      have n6_:=a0_ (blk_below (g:=gb1) (o:=.cells #[.slice A0_0 l0_0.length c0_0] 24 (0,0)) (bb_ BK1.out) hb)
      have n7_:=a0_ (blk_below (g:=gb2) (o:=.cells #[.slice A1_0 l1_0.length c1_0] 27 (0,0)) (bb_ BK2.out) hb)
      have n8_:=a0_ (blk_below (g:=gb15) (o:=.cells #[.slice Ao78 t12.length co78] 33 (0,0)) (bb_ BK15.out) hb)
      have n9_:=a0_ (blk_below (g:=gb19) (o:=.cells #[.slice Ao85 t16.length co85] 37 (0,0)) (bb_ BK19.out) hb)
      have n10_:=a0_ (below_step hb_ hb)
      clear HO7
      clear HO10
      clear HO14
      clear HO18
      clear HO23
      clear HO27
      clear BK1
      clear BK2
      clear BK15
      clear BK19
      clear HB
      have HO7:=n0_
      have HO10:=n1_
      have HO14:=n2_
      have HO18:=n3_
      have HO23:=n4_
      have HO27:=n5_
      have BK1:=n6_
      have BK2:=n7_
      have BK15:=n8_
      have BK19:=n9_
      have HB:=n10_
      clear n0_ n1_ n2_ n3_ n4_ n5_ n6_ n7_ n8_ n9_ n10_
      (try clear hb)
      (try clear hb2)
      (try clear hk)
      (try clear hi)
      refine hK.out _ _ ⟨(blk_cell BK19.out 0).trans rfl,(blk_cell BK2.out 0).trans rfl⟩ (fun hHeld=>?_)
      clear hK K
      refine norm_ (a':=?_) ?_ ?_
      rotate_left
      ·show Act.put _ (some 43) _ = _
       simp only [Act.put,List.setIfInBounds_toArray,List.set_cons_zero,List.set_cons_succ,i64_w,i32_w]
       rfl
      refine pure_ (i:=4) (N:=some 44) (v:=?_) (a':=?_) #[true,true,true,true,true] rfl rfl (by kernel_rfl) (fun _ _ _ h=>h) (Or.inl ⟨by rfl,?_⟩) ?_ ?_
      rotate_left
      ·intro w'
       go_simp
       with_reducible rfl
      rotate_left
      ·simp only [Act.put,List.setIfInBounds_toArray,List.set_cons_zero,List.set_cons_succ,i64_w,i32_w]
       rfl
      refine done_ (by kernel_rfl) ?_
      try go_wp2
      go_ret
      exact ⟨by first | rfl | (simp [errW_none,errW_some] <;> rfl) | (simp [*,errW_none,errW_some] <;> rfl),hb_⟩
     ·replace c61:=Bool.eq_false_iff.mpr c61
      subst c61
      have H1 : (some false) = some r:=by rw [if_neg (show ¬ (false = true) by decide)] at H;exact H
      clear H
      have H:=H1
      clear H1
      obtain rfl:=Option.some.inj H
      go_enter Try.func3,Try.ntmps3
      try go_wp2_with (first | ((with_reducible refine gate_dst (N:=2) rfl ?_);refine box_event ?hg (N:=2) ?hd (cs:=#[.slice A0_0 l0_0.length c0_0]) (t:=24) ?hr ?_;(case hd=>rfl);(case hg=>rfl);(case hr=>first | (go_simp;done) | (go_simp;rfl));intro gb1 hg w100 hbox hb;have n0_:=a0_ (below_step hb_ hb);have n1_:=a0_ (hbox);have n2_:=a0_ ((by rw [hg];exact (below_size hb_) : w.heap.size ≤ gb1));have n3_:=a0_ ((by rw [hg];exact (below_size hb_) : w.heap.size ≤ gb1));clear HB;have HB:=n0_;have BK1:=n1_;have GW1:=n2_;have GE1:=n3_;clear n0_ n1_ n2_ n3_;clear hb hbox hg) | ((with_reducible refine gate_dst (N:=3) rfl ?_);refine box_event ?hg (N:=3) ?hd (cs:=#[.slice A1_0 l1_0.length c1_0]) (t:=27) ?hr ?_;(case hd=>rfl);(case hg=>rfl);(case hr=>first | (go_simp;done) | (go_simp;rfl));intro gb2 hg w101 hbox hb;have n0_:=a0_ (blk_below (g:=gb1) (o:=.cells #[.slice A0_0 l0_0.length c0_0] 24 (0,0)) (bb_ BK1.out) hb);have n1_:=a0_ (below_step hb_ hb);have n2_:=a0_ (hbox);have n3_:=a0_ ((by rw [hg];exact (below_size hb_) : w.heap.size ≤ gb2));have n4_:=a0_ ((by rw [hg];exact (below_size hb_) : w.heap.size ≤ gb2));have n5_:=a0_ ((by rw [hg];exact Nat.ne_of_lt (blk_lt (g:=gb1) (o:=.cells #[.slice A0_0 l0_0.length c0_0] 24 (0,0)) (bb_ BK1.out)) : gb1 ≠ gb2));have n6_:=a0_ ((by rw [hg];exact Nat.ne_of_gt (blk_lt (g:=gb1) (o:=.cells #[.slice A0_0 l0_0.length c0_0] 24 (0,0)) (bb_ BK1.out)) : gb2 ≠ gb1));clear BK1 HB;have BK1:=n0_;have HB:=n1_;have BK2:=n2_;have GW2:=n3_;have GE2:=n4_;have NB1_2:=n5_;have NB2_1:=n6_;clear n0_ n1_ n2_ n3_ n4_ n5_ n6_;clear hb hbox hg;have hnb102:=NB1_2.out;have hnc102:=NB2_1.out;have hcz103_0 : w101.cell? ⟨gb1,0,none⟩ = some (.slice A0_0 l0_0.length c0_0):=(blk_cell BK1.out 0).trans rfl;have hfz103_0:=blk_frozen BK1.out 0) | ((with_reducible refine gate_callee (f:=14) rfl ?_);refine goesL_ (some 12) rfl rfl Try.func14 (by kernel_rfl) rfl #[.agg #[.slice A0_0 l0_0.length c0_0],.int .i64 1048576] rfl lm_ ?_;(with_reducible refine (laws_szTree.calls k _ _ l0_0 1048576 t3 _ ?side1 ?side2 A3.out).mono ?_);(case side1=>exact cc_ (Kd.C_below HR0_0.out HB.out));(case side2=>exact HC0_0.out);rintro e w104 ⟨rfl,hb⟩;refine ⟨_,rfl,?_⟩;have n0_:=a0_ (blk_below (g:=gb1) (o:=.cells #[.slice A0_0 l0_0.length c0_0] 24 (0,0)) (bb_ BK1.out) hb);have n1_:=a0_ (blk_below (g:=gb2) (o:=.cells #[.slice A1_0 l1_0.length c1_0] 27 (0,0)) (bb_ BK2.out) hb);have n2_:=a0_ (below_step hb_ hb);clear BK1 BK2 HB;have BK1:=n0_;have BK2:=n1_;have HB:=n2_;clear n0_ n1_ n2_;(try clear hb);(try clear hb2);(try clear hk);(try clear hi);have hcz105_0 : w104.cell? ⟨gb2,0,none⟩ = some (.slice A1_0 l1_0.length c1_0):=(blk_cell BK2.out 0).trans rfl;have hfz105_0:=blk_frozen BK2.out 0) | ((with_reducible refine gate_callee (f:=15) rfl ?_);refine goesL_ (some 17) rfl rfl Try.func15 (by kernel_rfl) rfl #[.agg #[.slice A1_0 l1_0.length c1_0],.int .i64 t3] rfl lm_ ?_;(with_reducible refine (laws_szHeap.calls _ _ l1_0 t3 t4 _ ?side1 ?side2 A10.out).mono ?_);(case side1=>exact cc_ (Kd.C_below HR1_0.out HB.out));(case side2=>exact HC1_0.out);rintro e w106 ⟨rfl,hb⟩;refine ⟨_,rfl,?_⟩;have n0_:=a0_ (blk_below (g:=gb1) (o:=.cells #[.slice A0_0 l0_0.length c0_0] 24 (0,0)) (bb_ BK1.out) hb);have n1_:=a0_ (blk_below (g:=gb2) (o:=.cells #[.slice A1_0 l1_0.length c1_0] 27 (0,0)) (bb_ BK2.out) hb);have n2_:=a0_ (below_step hb_ hb);clear BK1 BK2 HB;have BK1:=n0_;have BK2:=n1_;have HB:=n2_;clear n0_ n1_ n2_;(try clear hb);(try clear hb2);(try clear hk);(try clear hi)))
      have n0_:=a0_ (blk_drew BK1.out)
      have n1_:=a0_ (blk_drew BK2.out)
      have n2_:=a0_ (below_drew1 HB.out)
      clear BK1
      clear BK2
      clear HB
      have BK1:=n0_
      have BK2:=n1_
      have HB:=n2_
      clear n0_ n1_ n2_
      refine start_ (n:=6) (S:=fun w'=>w'.cell? ⟨gb1,0,none⟩ = some (.slice A0_0 l0_0.length c0_0) ∧ w'.cell? ⟨gb2,0,none⟩ = some (.slice A1_0 l1_0.length c1_0)) (ds:=[]) #[false,false,false,false,false,false] (by kernel_rfl) rfl rfl ⟨(blk_cell BK1.out 0).trans rfl,(blk_cell BK2.out 0).trans rfl⟩ (fun hHeld=>?_)
      generalize w106.drew = w107 at BK1 BK2 HB hHeld ⊢
      refine take_ (i:=0) (N:=some 20) (v:=?_) (a':=?_) #[true,false,false,false,false,false] rfl rfl (by kernel_rfl) (fun _ _ _ h=>h) (Or.inl ⟨by rfl,?_⟩) hHeld ?_ ?_
      rotate_left
      ·rintro w' ⟨s0,s1⟩
       go_simp
       with_reducible rfl
      rotate_left
      ·simp only [Act.put,List.setIfInBounds_toArray,List.set_cons_zero,List.set_cons_succ,i64_w,i32_w]
       rfl
      refine take_ (i:=2) (N:=some 22) (v:=?_) (a':=?_) #[true,false,true,false,false,false] rfl rfl (by kernel_rfl) (fun _ _ _ h=>h) (Or.inl ⟨by rfl,?_⟩) hHeld ?_ ?_
      rotate_left
      ·rintro w' ⟨s0,s1⟩
       go_simp
       with_reducible rfl
      rotate_left
      ·simp only [Act.put,List.setIfInBounds_toArray,List.set_cons_zero,List.set_cons_succ,i64_w,i32_w]
       rfl
      refine one_ (i:=1) (N:=some 21) #[true,true,true,false,false,false] rfl rfl (by kernel_rfl) (by decide) (fun K hK=>?_)
      refine goes_ Try.func17 (by kernel_rfl) rfl #[.agg #[.slice A0_0 l0_0.length c0_0]] (by rfl) rfl rfl lm_ ?_
      with_reducible refine (laws_toTree.calls k _ _ l0_0 t5 _ ?side1 ?side2 A19.out).mono ?_
      (case side1=>exact cc_ (Kd.C_below HR0_0.out HB.out))
      (case side2=>exact HC0_0.out)
      rintro e w108 ⟨v6,rfl,ho0,hb⟩
      refine ⟨_,rfl,?_⟩
      have n0_:=a0_ (Kd.R_lower ho0 (below_size hb_))
      have n1_:=a0_ (blk_below (g:=gb1) (o:=.cells #[.slice A0_0 l0_0.length c0_0] 24 (0,0)) (bb_ BK1.out) hb)
      have n2_:=a0_ (blk_below (g:=gb2) (o:=.cells #[.slice A1_0 l1_0.length c1_0] 27 (0,0)) (bb_ BK2.out) hb)
      have n3_:=a0_ (below_step hb_ hb)
      clear BK1
      clear BK2
      clear HB
      have HO7:=n0_
      have BK1:=n1_
      have BK2:=n2_
      have HB:=n3_
      clear n0_ n1_ n2_ n3_
      (try clear hb)
      (try clear hb2)
      (try clear hk)
      (try clear hi)
      (try clear ho0)
      refine hK.out _ _ ⟨(blk_cell BK1.out 0).trans rfl,(blk_cell BK2.out 0).trans rfl⟩ (fun hHeld=>?_)
      clear hK K
      refine norm_ (a':=?_) ?_ ?_
      rotate_left
      ·show Act.put _ (some 21) _ = _
       simp only [Act.put,List.setIfInBounds_toArray,List.set_cons_zero,List.set_cons_succ,i64_w,i32_w]
       rfl
      refine one_ (i:=3) (N:=some 23) #[true,true,true,true,false,false] rfl rfl (by kernel_rfl) (by decide) (fun K hK=>?_)
      refine goes_ Try.func18 (by kernel_rfl) rfl #[.agg #[.slice A1_0 l1_0.length c1_0]] (by rfl) rfl rfl lm_ ?_
      with_reducible refine (laws_toHeap.calls k _ _ l1_0 t8 _ ?side1 ?side2 A20.out).mono ?_
      (case side1=>exact cc_ (Kd.C_below HR1_0.out HB.out))
      (case side2=>exact HC1_0.out)
      rintro e w109 ⟨v9,rfl,ho0,hb⟩
      refine ⟨_,rfl,?_⟩
      have n0_:=a0_ (Kd.R_below (rr_ HO7.out) hb)
      have n1_:=a0_ (Kd.R_lower ho0 (below_size hb_))
      have n2_:=a0_ (blk_below (g:=gb1) (o:=.cells #[.slice A0_0 l0_0.length c0_0] 24 (0,0)) (bb_ BK1.out) hb)
      have n3_:=a0_ (blk_below (g:=gb2) (o:=.cells #[.slice A1_0 l1_0.length c1_0] 27 (0,0)) (bb_ BK2.out) hb)
      have n4_:=a0_ (below_step hb_ hb)
      clear HO7
      clear BK1
      clear BK2
      clear HB
      have HO7:=n0_
      have HO10:=n1_
      have BK1:=n2_
      have BK2:=n3_
      have HB:=n4_
      clear n0_ n1_ n2_ n3_ n4_
      (try clear hb)
      (try clear hb2)
      (try clear hk)
      (try clear hi)
      (try clear ho0)
      obtain ⟨Ao110,co110,eo110⟩:=Kd.R_slice HO7.out
      (first | subst eo110 | (injection eo110 with f1_ f2_ f3_;have f4_:=f1_.symm;have f5_:=f3_.symm;clear f1_ f2_ f3_;subst f4_;subst f5_))
      obtain ⟨Ao111,co111,eo111⟩:=Kd.R_slice HO10.out
      (first | subst eo111 | (injection eo111 with f1_ f2_ f3_;have f4_:=f1_.symm;have f5_:=f3_.symm;clear f1_ f2_ f3_;subst f4_;subst f5_))
      refine hK.out _ _ ⟨(blk_cell BK1.out 0).trans rfl,(blk_cell BK2.out 0).trans rfl⟩ (fun hHeld=>?_)
      clear hK K
      refine norm_ (a':=?_) ?_ ?_
      rotate_left
      ·show Act.put _ (some 23) _ = _
       simp only [Act.put,List.setIfInBounds_toArray,List.set_cons_zero,List.set_cons_succ,i64_w,i32_w]
       rfl
      refine one_ (i:=4) (N:=some 24) #[true,true,true,true,true,false] rfl rfl (by kernel_rfl) (by decide) (fun K hK=>?_)
      refine goes_ Try.func16 (by kernel_rfl) rfl #[.agg #[.slice Ao110 t5.length co110],.agg #[.slice Ao111 t8.length co111]] (by rfl) rfl rfl lm_ ?_
      with_reducible refine (spec_ValidHeap.calls k _ _ t5 _ _ t8 t11 _ ?side1 ?side2 ?side3 ?side4 A21.out).mono ?_
      (case side1=>repeat (first | exact (Kd.R_reads' HO7.out).2.2 | (with_reducible refine Kd.C_alloc ?_ _) | (with_reducible refine Kd.C_drewN ?_ _) | (with_reducible refine Kd.C_drew ?_)))
      (case side2=>exact (Kd.R_reads' HO7.out).2.1)
      (case side3=>repeat (first | exact (Kd.R_reads' HO10.out).2.2 | (with_reducible refine Kd.C_alloc ?_ _) | (with_reducible refine Kd.C_drewN ?_ _) | (with_reducible refine Kd.C_drew ?_)))
      (case side4=>exact (Kd.R_reads' HO10.out).2.1)
      rintro e w112 ⟨rfl,hb⟩
      refine ⟨_,rfl,?_⟩
      have n0_:=a0_ (Kd.R_below (rr_ HO7.out) hb)
      have n1_:=a0_ (Kd.R_below (rr_ HO10.out) hb)
      have n2_:=a0_ (blk_below (g:=gb1) (o:=.cells #[.slice A0_0 l0_0.length c0_0] 24 (0,0)) (bb_ BK1.out) hb)
      have n3_:=a0_ (blk_below (g:=gb2) (o:=.cells #[.slice A1_0 l1_0.length c1_0] 27 (0,0)) (bb_ BK2.out) hb)
      have n4_:=a0_ (below_step hb_ hb)
      clear HO7
      clear HO10
      clear BK1
      clear BK2
      clear HB
      have HO7:=n0_
      have HO10:=n1_
      have BK1:=n2_
      have BK2:=n3_
      have HB:=n4_
      clear n0_ n1_ n2_ n3_ n4_
      (try clear hb)
      (try clear hb2)
      (try clear hk)
      (try clear hi)
      refine hK.out _ _ ⟨(blk_cell BK1.out 0).trans rfl,(blk_cell BK2.out 0).trans rfl⟩ (fun hHeld=>?_)
      clear hK K
      refine norm_ (a':=?_) ?_ ?_
      rotate_left
      ·show Act.put _ (some 24) _ = _
       simp only [Act.put,List.setIfInBounds_toArray,List.set_cons_zero,List.set_cons_succ,i64_w,i32_w]
       rfl
      refine pure_ (i:=5) (N:=some 6) (v:=?_) (a':=?_) #[true,true,true,true,true,true] rfl rfl (by kernel_rfl) (fun _ _ _ h=>h) (Or.inl ⟨by rfl,?_⟩) ?_ ?_
      rotate_left
      ·intro w'
       go_simp
       with_reducible rfl
      rotate_left
      ·simp only [Act.put,List.setIfInBounds_toArray,List.set_cons_zero,List.set_cons_succ,i64_w,i32_w]
       rfl
      refine done_ (by kernel_rfl) ?_
      have hcz113_0 : w112.cell? ⟨gb1,0,none⟩ = some (.slice A0_0 l0_0.length c0_0):=(blk_cell BK1.out 0).trans rfl
      have hfz113_0:=blk_frozen BK1.out 0
      try go_wp2_with (first | ((with_reducible refine gate_callee (f:=17) rfl ?_);refine goesL_ (some 26) rfl rfl Try.func17 (by kernel_rfl) rfl #[.agg #[.slice A0_0 l0_0.length c0_0]] rfl lm_ ?_;(with_reducible refine (laws_toTree.calls k _ _ l0_0 t12 _ ?side1 ?side2 A22.out).mono ?_);(case side1=>exact cc_ (Kd.C_below HR0_0.out HB.out));(case side2=>exact HC0_0.out);rintro e w114 ⟨v13,rfl,ho0,hb⟩;refine ⟨_,rfl,?_⟩;have n0_:=a0_ (Kd.R_elder' (rr_ HO7.out) (Kd.R_base ho0) hb);have n1_:=a0_ (Kd.R_below (rr_ HO10.out) hb);have n2_:=a0_ (Kd.R_lower (Kd.R_new' ho0 (Kd.R_lt (rr_ HO7.out))) (below_size hb_));have n3_:=a0_ (blk_below (g:=gb1) (o:=.cells #[.slice A0_0 l0_0.length c0_0] 24 (0,0)) (bb_ BK1.out) hb);have n4_:=a0_ (blk_below (g:=gb2) (o:=.cells #[.slice A1_0 l1_0.length c1_0] 27 (0,0)) (bb_ BK2.out) hb);have n5_:=a0_ (below_step hb_ hb);clear HO7 HO10;clear BK1 BK2 HB;have HO7:=n0_;have HO10:=n1_;have HO14:=n2_;have BK1:=n3_;have BK2:=n4_;have HB:=n5_;clear n0_ n1_ n2_ n3_ n4_ n5_;(try clear hb);(try clear hb2);(try clear hk);(try clear hi);(try clear ho0)) | ((with_reducible refine gate_dst (N:=7) rfl ?_);refine box_event ?hg (N:=7) ?hd (cs:=#[.slice none 0 0]) (t:=33) ?hr ?_;(case hd=>rfl);(case hg=>rfl);(case hr=>first | (go_simp;done) | (go_simp;rfl));intro gb15 hg w115 hbox hb;have n0_:=a0_ (Kd.R_below (rr_ HO7.out) hb);have n1_:=a0_ (Kd.R_below (rr_ HO10.out) hb);have n2_:=a0_ (Kd.R_below (rr_ HO14.out) hb);have n3_:=a0_ (blk_below (g:=gb1) (o:=.cells #[.slice A0_0 l0_0.length c0_0] 24 (0,0)) (bb_ BK1.out) hb);have n4_:=a0_ (blk_below (g:=gb2) (o:=.cells #[.slice A1_0 l1_0.length c1_0] 27 (0,0)) (bb_ BK2.out) hb);have n5_:=a0_ (below_step hb_ hb);have n6_:=a0_ (hbox);have n7_:=a0_ ((by rw [hg];exact (below_size hb_) : w.heap.size ≤ gb15));have n8_:=a0_ ((by rw [hg];exact (below_size hb_) : w.heap.size ≤ gb15));have n9_:=a0_ ((by rw [hg];exact Nat.ne_of_lt (blk_lt (g:=gb1) (o:=.cells #[.slice A0_0 l0_0.length c0_0] 24 (0,0)) (bb_ BK1.out)) : gb1 ≠ gb15));have n10_:=a0_ ((by rw [hg];exact Nat.ne_of_gt (blk_lt (g:=gb1) (o:=.cells #[.slice A0_0 l0_0.length c0_0] 24 (0,0)) (bb_ BK1.out)) : gb15 ≠ gb1));have n11_:=a0_ ((by rw [hg];exact Nat.ne_of_lt (blk_lt (g:=gb2) (o:=.cells #[.slice A1_0 l1_0.length c1_0] 27 (0,0)) (bb_ BK2.out)) : gb2 ≠ gb15));have n12_:=a0_ ((by rw [hg];exact Nat.ne_of_gt (blk_lt (g:=gb2) (o:=.cells #[.slice A1_0 l1_0.length c1_0] 27 (0,0)) (bb_ BK2.out)) : gb15 ≠ gb2));clear HO7 HO10;clear HO14 BK1;clear BK2 HB;have HO7:=n0_;have HO10:=n1_;have HO14:=n2_;have BK1:=n3_;have BK2:=n4_;have HB:=n5_;have BK15:=n6_;have GW15:=n7_;have GE15:=n8_;have NB1_15:=n9_;have NB15_1:=n10_;have NB2_15:=n11_;have NB15_2:=n12_;clear n0_ n1_ n2_ n3_ n4_ n5_ n6_ n7_ n8_ n9_ n10_ n11_ n12_;clear hb hbox hg;obtain ⟨Ao116,co116,eo116⟩:=Kd.R_slice HO14.out;subst eo116;have hnb117:=NB15_1.out;have hnc117:=NB1_15.out;have hnb118:=NB15_2.out;have hnc118:=NB2_15.out;have hcz119_0 : w115.cell? ⟨gb15,0,none⟩ = some (.slice none 0 0):=(blk_cell BK15.out 0).trans rfl;have hfz119_0:=blk_frozen BK15.out 0;have hcz120_0 : w115.cell? ⟨gb2,0,none⟩ = some (.slice A1_0 l1_0.length c1_0):=(blk_cell BK2.out 0).trans rfl;have hfz120_0:=blk_frozen BK2.out 0) | ((with_reducible refine gate_callee (f:=18) rfl ?_);refine goesL_ (some 28) rfl rfl Try.func18 (by kernel_rfl) rfl #[.agg #[.slice A1_0 l1_0.length c1_0]] rfl lm_ ?_;(with_reducible refine (laws_toHeap.calls k _ _ l1_0 t16 _ ?side1 ?side2 A23.out).mono ?_);(case side1=>exact Kd.C_below HR1_0.out hb_);(case side2=>exact HC1_0.out);rintro e w121 ⟨v17,rfl,ho0,hb⟩;refine ⟨_,rfl,?_⟩;have n0_:=a0_ (Kd.R_below (by (with_reducible repeat (first | apply Kd.R_alloc | apply Kd.R_drewN | apply Kd.R_drew));exact (Kd.R_mono (Kd.R_far (p:=⟨gb15,0,none⟩) (Kd.R_types HO7.out BK15.out (by decide)) (fun _ hk=>hk.2) (.slice Ao116 t12.length co116)) (fun _ h_=>h_.1))) hb);have n1_:=a0_ (Kd.R_elder' (by (with_reducible repeat (first | apply Kd.R_alloc | apply Kd.R_drewN | apply Kd.R_drew));exact (Kd.R_mono (Kd.R_far (p:=⟨gb15,0,none⟩) (Kd.R_types HO10.out BK15.out (by decide)) (fun _ hk=>hk.2) (.slice Ao116 t12.length co116)) (fun _ h_=>h_.1))) (Kd.R_base ho0) hb);have n2_:=a0_ (Kd.R_below (by (with_reducible repeat (first | apply Kd.R_alloc | apply Kd.R_drewN | apply Kd.R_drew));exact (Kd.R_mono (Kd.R_far (p:=⟨gb15,0,none⟩) (Kd.R_types HO14.out BK15.out (by decide)) (fun _ hk=>hk.2) (.slice Ao116 t12.length co116)) (fun _ h_=>h_.1))) hb);have n3_:=a0_ (Kd.R_lower (Kd.R_new' ho0 (Kd.R_lt (by (with_reducible repeat (first | apply Kd.R_alloc | apply Kd.R_drewN | apply Kd.R_drew));exact (Kd.R_mono (Kd.R_far (p:=⟨gb15,0,none⟩) (Kd.R_types HO10.out BK15.out (by decide)) (fun _ hk=>hk.2) (.slice Ao116 t12.length co116)) (fun _ h_=>h_.1))))) (below_size hb_));have n4_:=a0_ (blk_below (g:=gb1) (o:=.cells #[.slice A0_0 l0_0.length c0_0] 24 (0,0)) (by (with_reducible repeat (first | refine blk_drewN ?_ _ | refine blk_drew ?_ | refine blk_alloc ?_ _));refine blk_far ?_ NB1_15.out _;(with_reducible repeat (first | refine blk_drewN ?_ _ | refine blk_drew ?_ | refine blk_alloc ?_ _));exact BK1.out) hb);have n5_:=a0_ (blk_below (g:=gb2) (o:=.cells #[.slice A1_0 l1_0.length c1_0] 27 (0,0)) (by (with_reducible repeat (first | refine blk_drewN ?_ _ | refine blk_drew ?_ | refine blk_alloc ?_ _));refine blk_far ?_ NB2_15.out _;(with_reducible repeat (first | refine blk_drewN ?_ _ | refine blk_drew ?_ | refine blk_alloc ?_ _));exact BK2.out) hb);have n6_:=a0_ (blk_below (g:=gb15) (o:=.cells #[.slice Ao116 t12.length co116] 33 (0,0)) (by (with_reducible repeat (first | refine blk_drewN ?_ _ | refine blk_drew ?_ | refine blk_alloc ?_ _));refine blk_put (cs:=#[.slice none 0 0]) ?_ 0 _ rfl;(with_reducible repeat (first | refine blk_drewN ?_ _ | refine blk_drew ?_ | refine blk_alloc ?_ _));exact BK15.out) hb);have n7_:=a0_ (below_step hb_ hb);clear HO7 HO10;clear HO14 BK1;clear BK2 BK15 HB;have HO7:=n0_;have HO10:=n1_;have HO14:=n2_;have HO18:=n3_;have BK1:=n4_;have BK2:=n5_;have BK15:=n6_;have HB:=n7_;clear n0_ n1_ n2_ n3_ n4_ n5_ n6_ n7_;(try clear hb);(try clear hb2);(try clear hk);(try clear hi);(try clear ho0)) | ((with_reducible refine gate_dst (N:=8) rfl ?_);refine box_event ?hg (N:=8) ?hd (cs:=#[.slice none 0 0]) (t:=37) ?hr ?_;(case hd=>rfl);(case hg=>rfl);(case hr=>first | (go_simp;done) | (go_simp;rfl));intro gb19 hg w122 hbox hb;have n0_:=a0_ (Kd.R_below (rr_ HO7.out) hb);have n1_:=a0_ (Kd.R_below (rr_ HO10.out) hb);have n2_:=a0_ (Kd.R_below (rr_ HO14.out) hb);have n3_:=a0_ (Kd.R_below (rr_ HO18.out) hb);have n4_:=a0_ (blk_below (g:=gb1) (o:=.cells #[.slice A0_0 l0_0.length c0_0] 24 (0,0)) (bb_ BK1.out) hb);have n5_:=a0_ (blk_below (g:=gb2) (o:=.cells #[.slice A1_0 l1_0.length c1_0] 27 (0,0)) (bb_ BK2.out) hb);have n6_:=a0_ (blk_below (g:=gb15) (o:=.cells #[.slice Ao116 t12.length co116] 33 (0,0)) (bb_ BK15.out) hb);have n7_:=a0_ (below_step hb_ hb);have n8_:=a0_ (hbox);have n9_:=a0_ ((by rw [hg];exact (below_size hb_) : w.heap.size ≤ gb19));have n10_:=a0_ ((by rw [hg];exact (below_size hb_) : w.heap.size ≤ gb19));have n11_:=a0_ ((by rw [hg];exact Nat.ne_of_lt (blk_lt (g:=gb1) (o:=.cells #[.slice A0_0 l0_0.length c0_0] 24 (0,0)) (bb_ BK1.out)) : gb1 ≠ gb19));have n12_:=a0_ ((by rw [hg];exact Nat.ne_of_gt (blk_lt (g:=gb1) (o:=.cells #[.slice A0_0 l0_0.length c0_0] 24 (0,0)) (bb_ BK1.out)) : gb19 ≠ gb1));have n13_:=a0_ ((by rw [hg];exact Nat.ne_of_lt (blk_lt (g:=gb2) (o:=.cells #[.slice A1_0 l1_0.length c1_0] 27 (0,0)) (bb_ BK2.out)) : gb2 ≠ gb19));have n14_:=a0_ ((by rw [hg];exact Nat.ne_of_gt (blk_lt (g:=gb2) (o:=.cells #[.slice A1_0 l1_0.length c1_0] 27 (0,0)) (bb_ BK2.out)) : gb19 ≠ gb2));have n15_:=a0_ ((by rw [hg];exact Nat.ne_of_lt (blk_lt (g:=gb15) (o:=.cells #[.slice Ao116 t12.length co116] 33 (0,0)) (bb_ BK15.out)) : gb15 ≠ gb19));have n16_:=a0_ ((by rw [hg];exact Nat.ne_of_gt (blk_lt (g:=gb15) (o:=.cells #[.slice Ao116 t12.length co116] 33 (0,0)) (bb_ BK15.out)) : gb19 ≠ gb15));clear HO7 HO10;clear HO14 HO18;clear BK1 BK2;clear BK15 HB;have HO7:=n0_;have HO10:=n1_;have HO14:=n2_;have HO18:=n3_;have BK1:=n4_;have BK2:=n5_;have BK15:=n6_;have HB:=n7_;have BK19:=n8_;have GW19:=n9_;have GE19:=n10_;have NB1_19:=n11_;have NB19_1:=n12_;have NB2_19:=n13_;have NB19_2:=n14_;have NB15_19:=n15_;have NB19_15:=n16_;clear n0_ n1_ n2_ n3_ n4_ n5_ n6_ n7_ n8_ n9_ n10_ n11_ n12_ n13_ n14_ n15_ n16_;clear hb hbox hg;obtain ⟨Ao123,co123,eo123⟩:=Kd.R_slice HO18.out;subst eo123;have hnb124:=NB19_1.out;have hnc124:=NB1_19.out;have hnb125:=NB19_2.out;have hnc125:=NB2_19.out;have hnb126:=NB19_15.out;have hnc126:=NB15_19.out;have hcz127_0 : w122.cell? ⟨gb19,0,none⟩ = some (.slice none 0 0):=(blk_cell BK19.out 0).trans rfl;have hfz127_0:=blk_frozen BK19.out 0;have hcz128_0 : w122.cell? ⟨gb15,0,none⟩ = some (.slice Ao116 t12.length co116):=(blk_cell BK15.out 0).trans rfl;have hfz128_0:=blk_frozen BK15.out 0) | ((with_reducible refine gate_callee (f:=19) rfl ?_);refine goesL_ (some 31) rfl rfl Try.func19 (by kernel_rfl) rfl #[.agg #[.slice Ao116 t12.length co116],.agg #[.slice Ao123 t16.length co123]] rfl lm_ ?_;(with_reducible refine (impl_ValidHeap.calls _ _ t12 _ _ t16 t20 _ ?side1 ?side2 ?side3 ?side4 A24.out).mono ?_);(case side1=>refine (Kd.R_reads' (e:=106) (base:=w.heap.size) (ok:=fun k_=>(True ∧ some k_ ≠ (.slice Ao110 t5.length co110 : Value).ownBlock)) (n:=t12.length) (c:=co116) ?_).2.2;exact (by (with_reducible repeat (first | apply Kd.R_alloc | apply Kd.R_drewN | apply Kd.R_drew));exact (Kd.R_mono (Kd.R_far (p:=⟨gb19,0,none⟩) (Kd.R_types HO14.out BK19.out (by decide)) (fun _ hk=>hk.2) (.slice Ao123 t16.length co123)) (fun _ h_=>h_.1))));(case side2=>exact (Kd.R_reads' HO14.out).2.1);(case side3=>refine (Kd.R_reads' (e:=79) (base:=w.heap.size) (ok:=fun k_=>(True ∧ some k_ ≠ (.slice Ao111 t8.length co111 : Value).ownBlock)) (n:=t16.length) (c:=co123) ?_).2.2;exact (by (with_reducible repeat (first | apply Kd.R_alloc | apply Kd.R_drewN | apply Kd.R_drew));exact (Kd.R_mono (Kd.R_far (p:=⟨gb19,0,none⟩) (Kd.R_types HO18.out BK19.out (by decide)) (fun _ hk=>hk.2) (.slice Ao123 t16.length co123)) (fun _ h_=>h_.1))));(case side4=>exact (Kd.R_reads' HO18.out).2.1);rintro e w129 ⟨rfl,hb⟩;refine ⟨_,rfl,?_⟩;have n0_:=a0_ (Kd.R_below (by (with_reducible repeat (first | apply Kd.R_alloc | apply Kd.R_drewN | apply Kd.R_drew));exact (Kd.R_mono (Kd.R_far (p:=⟨gb19,0,none⟩) (Kd.R_types HO7.out BK19.out (by decide)) (fun _ hk=>hk.2) (.slice Ao123 t16.length co123)) (fun _ h_=>h_.1))) hb);have n1_:=a0_ (Kd.R_below (by (with_reducible repeat (first | apply Kd.R_alloc | apply Kd.R_drewN | apply Kd.R_drew));exact (Kd.R_mono (Kd.R_far (p:=⟨gb19,0,none⟩) (Kd.R_types HO10.out BK19.out (by decide)) (fun _ hk=>hk.2) (.slice Ao123 t16.length co123)) (fun _ h_=>h_.1))) hb);have n2_:=a0_ (Kd.R_below (by (with_reducible repeat (first | apply Kd.R_alloc | apply Kd.R_drewN | apply Kd.R_drew));exact (Kd.R_mono (Kd.R_far (p:=⟨gb19,0,none⟩) (Kd.R_types HO14.out BK19.out (by decide)) (fun _ hk=>hk.2) (.slice Ao123 t16.length co123)) (fun _ h_=>h_.1))) hb);have n3_:=a0_ (Kd.R_below (by (with_reducible repeat (first | apply Kd.R_alloc | apply Kd.R_drewN | apply Kd.R_drew));exact (Kd.R_mono (Kd.R_far (p:=⟨gb19,0,none⟩) (Kd.R_types HO18.out BK19.out (by decide)) (fun _ hk=>hk.2) (.slice Ao123 t16.length co123)) (fun _ h_=>h_.1))) hb);have n4_:=a0_ (blk_below (g:=gb1) (o:=.cells #[.slice A0_0 l0_0.length c0_0] 24 (0,0)) (by (with_reducible repeat (first | refine blk_drewN ?_ _ | refine blk_drew ?_ | refine blk_alloc ?_ _));refine blk_far ?_ NB1_19.out _;(with_reducible repeat (first | refine blk_drewN ?_ _ | refine blk_drew ?_ | refine blk_alloc ?_ _));exact BK1.out) hb);have n5_:=a0_ (blk_below (g:=gb2) (o:=.cells #[.slice A1_0 l1_0.length c1_0] 27 (0,0)) (by (with_reducible repeat (first | refine blk_drewN ?_ _ | refine blk_drew ?_ | refine blk_alloc ?_ _));refine blk_far ?_ NB2_19.out _;(with_reducible repeat (first | refine blk_drewN ?_ _ | refine blk_drew ?_ | refine blk_alloc ?_ _));exact BK2.out) hb);have n6_:=a0_ (blk_below (g:=gb15) (o:=.cells #[.slice Ao116 t12.length co116] 33 (0,0)) (by (with_reducible repeat (first | refine blk_drewN ?_ _ | refine blk_drew ?_ | refine blk_alloc ?_ _));refine blk_far ?_ NB15_19.out _;(with_reducible repeat (first | refine blk_drewN ?_ _ | refine blk_drew ?_ | refine blk_alloc ?_ _));exact BK15.out) hb);have n7_:=a0_ (blk_below (g:=gb19) (o:=.cells #[.slice Ao123 t16.length co123] 37 (0,0)) (by (with_reducible repeat (first | refine blk_drewN ?_ _ | refine blk_drew ?_ | refine blk_alloc ?_ _));refine blk_put (cs:=#[.slice none 0 0]) ?_ 0 _ rfl;(with_reducible repeat (first | refine blk_drewN ?_ _ | refine blk_drew ?_ | refine blk_alloc ?_ _));exact BK19.out) hb);have n8_:=a0_ (below_step hb_ hb);clear HO7 HO10;clear HO14 HO18;clear BK1 BK2;clear BK15 BK19 HB;have HO7:=n0_;have HO10:=n1_;have HO14:=n2_;have HO18:=n3_;have BK1:=n4_;have BK2:=n5_;have BK15:=n6_;have BK19:=n7_;have HB:=n8_;clear n0_ n1_ n2_ n3_ n4_ n5_ n6_ n7_ n8_;(try clear hb);(try clear hb2);(try clear hk);(try clear hi)))
      have n0_:=a0_ (Kd.R_drew HO7.out)
      have n1_:=a0_ (Kd.R_drew HO10.out)
      have n2_:=a0_ (Kd.R_drew HO14.out)
      have n3_:=a0_ (Kd.R_drew HO18.out)
      have n4_:=a0_ (blk_drew BK1.out)
      have n5_:=a0_ (blk_drew BK2.out)
      have n6_:=a0_ (blk_drew BK15.out)
      have n7_:=a0_ (blk_drew BK19.out)
      have n8_:=a0_ (below_drew1 HB.out)
      clear HO7
      clear HO10
      clear HO14
      clear HO18
      clear BK1
      clear BK2
      clear BK15
      clear BK19
      clear HB
      have HO7:=n0_
      have HO10:=n1_
      have HO14:=n2_
      have HO18:=n3_
      have BK1:=n4_
      have BK2:=n5_
      have BK15:=n6_
      have BK19:=n7_
      have HB:=n8_
      clear n0_ n1_ n2_ n3_ n4_ n5_ n6_ n7_ n8_
      refine start_ (n:=5) (S:=fun w'=>w'.cell? ⟨gb15,0,none⟩ = some (.slice Ao116 t12.length co116) ∧ w'.cell? ⟨gb1,0,none⟩ = some (.slice A0_0 l0_0.length c0_0)) (ds:=[]) #[false,false,false,false,false] (by kernel_rfl) rfl rfl ⟨(blk_cell BK15.out 0).trans rfl,(blk_cell BK1.out 0).trans rfl⟩ (fun hHeld=>?_)
      generalize w129.drew = w130 at HO7 HO10 HO14 HO18 BK1 BK2 BK15 BK19 HB hHeld ⊢
      refine take_ (i:=0) (N:=some 35) (v:=?_) (a':=?_) #[true,false,false,false,false] rfl rfl (by kernel_rfl) (fun _ _ _ h=>h) (Or.inl ⟨by rfl,?_⟩) hHeld ?_ ?_
      rotate_left
      ·rintro w' ⟨s0,s1⟩
       go_simp
       with_reducible rfl
      rotate_left
      ·simp only [Act.put,List.setIfInBounds_toArray,List.set_cons_zero,List.set_cons_succ,i64_w,i32_w]
       rfl
      refine take_ (i:=1) (N:=some 36) (v:=?_) (a':=?_) #[true,true,false,false,false] rfl rfl (by kernel_rfl) (fun _ _ _ h=>h) (Or.inl ⟨by rfl,?_⟩) hHeld ?_ ?_
      rotate_left
      ·rintro w' ⟨s0,s1⟩
       go_simp
       with_reducible rfl
      rotate_left
      ·simp only [Act.put,List.setIfInBounds_toArray,List.set_cons_zero,List.set_cons_succ,i64_w,i32_w]
       rfl
      refine one_ (i:=2) (N:=some 37) #[true,true,true,false,false] rfl rfl (by kernel_rfl) (by decide) (fun K hK=>?_)
      refine goes_ Try.func17 (by kernel_rfl) rfl #[.agg #[.slice A0_0 l0_0.length c0_0]] (by rfl) rfl rfl lm_ ?_
      with_reducible refine (laws_toTree.calls k _ _ l0_0 t21 _ ?side1 ?side2 A56.out).mono ?_
      (case side1=>exact cc_ (Kd.C_below HR0_0.out HB.out))
      (case side2=>exact HC0_0.out)
      rintro e w131 ⟨v22,rfl,ho0,hb⟩
      refine ⟨_,rfl,?_⟩
      have n0_:=a0_ (Kd.R_elder' (rr_ HO7.out) (Kd.R_base ho0) hb)
      have n1_:=a0_ (Kd.R_below (rr_ HO10.out) hb)
      have n2_:=a0_ (Kd.R_elder' (rr_ HO14.out) (Kd.R_base ho0) hb)
      have n3_:=a0_ (Kd.R_below (rr_ HO18.out) hb)
      have n4_:=a0_ (Kd.R_lower (Kd.R_new' (Kd.R_new' ho0 (Kd.R_lt (rr_ HO7.out))) (Kd.R_lt (rr_ HO14.out))) (below_size hb_))
      have n5_:=a0_ (blk_below (g:=gb1) (o:=.cells #[.slice A0_0 l0_0.length c0_0] 24 (0,0)) (bb_ BK1.out) hb)
      have n6_:=a0_ (blk_below (g:=gb2) (o:=.cells #[.slice A1_0 l1_0.length c1_0] 27 (0,0)) (bb_ BK2.out) hb)
      have n7_:=a0_ (blk_below (g:=gb15) (o:=.cells #[.slice Ao116 t12.length co116] 33 (0,0)) (bb_ BK15.out) hb)
      have n8_:=a0_ (blk_below (g:=gb19) (o:=.cells #[.slice Ao123 t16.length co123] 37 (0,0)) (bb_ BK19.out) hb)
      have n9_:=a0_ (below_step hb_ hb)
      clear HO7
      clear HO10
      clear HO14
      clear HO18
      clear BK1
      clear BK2
      clear BK15
      clear BK19
      clear HB
      have HO7:=n0_
      have HO10:=n1_
      have HO14:=n2_
      have HO18:=n3_
      have HO23:=n4_
      have BK1:=n5_
      have BK2:=n6_
      have BK15:=n7_
      have BK19:=n8_
      have HB:=n9_
      clear n0_ n1_ n2_ n3_ n4_ n5_ n6_ n7_ n8_ n9_
      (try clear hb)
      (try clear hb2)
      (try clear hk)
      (try clear hi)
      (try clear ho0)
      obtain ⟨Ao132,co132,eo132⟩:=Kd.R_slice HO23.out
      (first | subst eo132 | (injection eo132 with f1_ f2_ f3_;have f4_:=f1_.symm;have f5_:=f3_.symm;clear f1_ f2_ f3_;subst f4_;subst f5_))
      refine hK.out _ _ ⟨(blk_cell BK15.out 0).trans rfl,(blk_cell BK1.out 0).trans rfl⟩ (fun hHeld=>?_)
      clear hK K
      refine norm_ (a':=?_) ?_ ?_
      rotate_left
      ·show Act.put _ (some 37) _ = _
       simp only [Act.put,List.setIfInBounds_toArray,List.set_cons_zero,List.set_cons_succ,i64_w,i32_w]
       rfl
      refine one_ (i:=3) (N:=some 38) #[true,true,true,true,false] rfl rfl (by kernel_rfl) (by decide) (fun K hK=>?_)
      refine goes_ Try.func20 (by kernel_rfl) rfl #[.agg #[.slice Ao116 t12.length co116],.agg #[.slice Ao132 t21.length co132]] (by rfl) rfl rfl lm_ ?_
      with_reducible refine (laws_eqTree.calls k _ _ t12 _ _ t21 true _ ?side1 ?side2 ?side3 ?side4 A57.out).mono ?_
      (case side1=>repeat (first | exact (Kd.R_reads' HO14.out).2.2 | (with_reducible refine Kd.C_alloc ?_ _) | (with_reducible refine Kd.C_drewN ?_ _) | (with_reducible refine Kd.C_drew ?_)))
      (case side2=>exact (Kd.R_reads' HO14.out).2.1)
      (case side3=>repeat (first | exact (Kd.R_reads' HO23.out).2.2 | (with_reducible refine Kd.C_alloc ?_ _) | (with_reducible refine Kd.C_drewN ?_ _) | (with_reducible refine Kd.C_drew ?_)))
      (case side4=>exact (Kd.R_reads' HO23.out).2.1)
      rintro e w133 ⟨rfl,hb⟩
      refine ⟨_,rfl,?_⟩
      have n0_:=a0_ (Kd.R_below (rr_ HO7.out) hb)
      have n1_:=a0_ (Kd.R_below (rr_ HO10.out) hb)
      have n2_:=a0_ (Kd.R_below (rr_ HO14.out) hb)
      have n3_:=a0_ (Kd.R_below (rr_ HO18.out) hb)
      have n4_:=a0_ (Kd.R_below (rr_ HO23.out) hb)
      have n5_:=a0_ (blk_below (g:=gb1) (o:=.cells #[.slice A0_0 l0_0.length c0_0] 24 (0,0)) (bb_ BK1.out) hb)
      have n6_:=a0_ (blk_below (g:=gb2) (o:=.cells #[.slice A1_0 l1_0.length c1_0] 27 (0,0)) (bb_ BK2.out) hb)
      have n7_:=a0_ (blk_below (g:=gb15) (o:=.cells #[.slice Ao116 t12.length co116] 33 (0,0)) (bb_ BK15.out) hb)
      have n8_:=a0_ (blk_below (g:=gb19) (o:=.cells #[.slice Ao123 t16.length co123] 37 (0,0)) (bb_ BK19.out) hb)
      have n9_:=a0_ (below_step hb_ hb)
      clear HO7
      clear HO10
      clear HO14
      clear HO18
      clear HO23
      clear BK1
      clear BK2
      clear BK15
      clear BK19
      clear HB
      have HO7:=n0_
      have HO10:=n1_
      have HO14:=n2_
      have HO18:=n3_
      have HO23:=n4_
      have BK1:=n5_
      have BK2:=n6_
      have BK15:=n7_
      have BK19:=n8_
      have HB:=n9_
      clear n0_ n1_ n2_ n3_ n4_ n5_ n6_ n7_ n8_ n9_
      (try clear hb)
      (try clear hb2)
      (try clear hk)
      (try clear hi)
      refine hK.out _ _ ⟨(blk_cell BK15.out 0).trans rfl,(blk_cell BK1.out 0).trans rfl⟩ (fun hHeld=>?_)
      clear hK K
      refine norm_ (a':=?_) ?_ ?_
      rotate_left
      ·show Act.put _ (some 38) _ = _
       simp only [Act.put,List.setIfInBounds_toArray,List.set_cons_zero,List.set_cons_succ,i64_w,i32_w]
       rfl
      refine pure_ (i:=4) (N:=some 39) (v:=?_) (a':=?_) #[true,true,true,true,true] rfl rfl (by kernel_rfl) (fun _ _ _ h=>h) (Or.inl ⟨by rfl,?_⟩) ?_ ?_
      rotate_left
      ·intro w'
       go_simp
       with_reducible rfl
      rotate_left
      ·simp only [Act.put,List.setIfInBounds_toArray,List.set_cons_zero,List.set_cons_succ,i64_w,i32_w]
       rfl
      refine done_ (by kernel_rfl) ?_
      try go_wp2
      have n0_:=a0_ (Kd.R_drew HO7.out)
      have n1_:=a0_ (Kd.R_drew HO10.out)
      have n2_:=a0_ (Kd.R_drew HO14.out)
      have n3_:=a0_ (Kd.R_drew HO18.out)
      have n4_:=a0_ (Kd.R_drew HO23.out)
      have n5_:=a0_ (blk_drew BK1.out)
      have n6_:=a0_ (blk_drew BK2.out)
      have n7_:=a0_ (blk_drew BK15.out)
      have n8_:=a0_ (blk_drew BK19.out)
      have n9_:=a0_ (below_drew1 HB.out)
      clear HO7
      clear HO10
      clear HO14
      clear HO18
      clear HO23
      clear BK1
      clear BK2
      clear BK15
      clear BK19
      clear HB
      have HO7:=n0_
      have HO10:=n1_
      have HO14:=n2_
      have HO18:=n3_
      have HO23:=n4_
      have BK1:=n5_
      have BK2:=n6_
      have BK15:=n7_
      have BK19:=n8_
      have HB:=n9_
      clear n0_ n1_ n2_ n3_ n4_ n5_ n6_ n7_ n8_ n9_
      refine start_ (n:=5) (S:=fun w'=>w'.cell? ⟨gb19,0,none⟩ = some (.slice Ao123 t16.length co123) ∧ w'.cell? ⟨gb2,0,none⟩ = some (.slice A1_0 l1_0.length c1_0)) (ds:=[]) #[false,false,false,false,false] (by kernel_rfl) rfl rfl ⟨(blk_cell BK19.out 0).trans rfl,(blk_cell BK2.out 0).trans rfl⟩ (fun hHeld=>?_)
      generalize w133.drew = w134 at HO7 HO10 HO14 HO18 HO23 BK1 BK2 BK15 BK19 HB hHeld ⊢
      refine take_ (i:=0) (N:=some 40) (v:=?_) (a':=?_) #[true,false,false,false,false] rfl rfl (by kernel_rfl) (fun _ _ _ h=>h) (Or.inl ⟨by rfl,?_⟩) hHeld ?_ ?_
      rotate_left
      ·rintro w' ⟨s0,s1⟩
       go_simp
       with_reducible rfl
      rotate_left
      ·simp only [Act.put,List.setIfInBounds_toArray,List.set_cons_zero,List.set_cons_succ,i64_w,i32_w]
       rfl
      refine take_ (i:=1) (N:=some 41) (v:=?_) (a':=?_) #[true,true,false,false,false] rfl rfl (by kernel_rfl) (fun _ _ _ h=>h) (Or.inl ⟨by rfl,?_⟩) hHeld ?_ ?_
      rotate_left
      ·rintro w' ⟨s0,s1⟩
       go_simp
       with_reducible rfl
      rotate_left
      ·simp only [Act.put,List.setIfInBounds_toArray,List.set_cons_zero,List.set_cons_succ,i64_w,i32_w]
       rfl
      refine one_ (i:=2) (N:=some 42) #[true,true,true,false,false] rfl rfl (by kernel_rfl) (by decide) (fun K hK=>?_)
      refine goes_ Try.func18 (by kernel_rfl) rfl #[.agg #[.slice A1_0 l1_0.length c1_0]] (by rfl) rfl rfl lm_ ?_
      with_reducible refine (laws_toHeap.calls k _ _ l1_0 t25 _ ?side1 ?side2 A59.out).mono ?_
      (case side1=>exact cc_ (Kd.C_below HR1_0.out HB.out))
      (case side2=>exact HC1_0.out)
      rintro e w135 ⟨v26,rfl,ho0,hb⟩
      refine ⟨_,rfl,?_⟩
      have n0_:=a0_ (Kd.R_below (rr_ HO7.out) hb)
      have n1_:=a0_ (Kd.R_elder' (rr_ HO10.out) (Kd.R_base ho0) hb)
      have n2_:=a0_ (Kd.R_below (rr_ HO14.out) hb)
      have n3_:=a0_ (Kd.R_elder' (rr_ HO18.out) (Kd.R_base ho0) hb)
      have n4_:=a0_ (Kd.R_below (rr_ HO23.out) hb)
      have n5_:=a0_ (Kd.R_lower (Kd.R_new' (Kd.R_new' ho0 (Kd.R_lt (rr_ HO10.out))) (Kd.R_lt (rr_ HO18.out))) (below_size hb_))
      have n6_:=a0_ (blk_below (g:=gb1) (o:=.cells #[.slice A0_0 l0_0.length c0_0] 24 (0,0)) (bb_ BK1.out) hb)
      have n7_:=a0_ (blk_below (g:=gb2) (o:=.cells #[.slice A1_0 l1_0.length c1_0] 27 (0,0)) (bb_ BK2.out) hb)
      have n8_:=a0_ (blk_below (g:=gb15) (o:=.cells #[.slice Ao116 t12.length co116] 33 (0,0)) (bb_ BK15.out) hb)
      have n9_:=a0_ (blk_below (g:=gb19) (o:=.cells #[.slice Ao123 t16.length co123] 37 (0,0)) (bb_ BK19.out) hb)
      have n10_:=a0_ (below_step hb_ hb)
      clear HO7
      clear HO10
      clear HO14
      clear HO18
      clear HO23
      clear BK1
      clear BK2
      clear BK15
      clear BK19
      clear HB
      have HO7:=n0_
      have HO10:=n1_
      have HO14:=n2_
      have HO18:=n3_
      have HO23:=n4_
      have HO27:=n5_
      have BK1:=n6_
      have BK2:=n7_
      have BK15:=n8_
      have BK19:=n9_
      have HB:=n10_
      clear n0_ n1_ n2_ n3_ n4_ n5_ n6_ n7_ n8_ n9_ n10_
      (try clear hb)
      (try clear hb2)
      (try clear hk)
      (try clear hi)
      (try clear ho0)
      obtain ⟨Ao136,co136,eo136⟩:=Kd.R_slice HO27.out
      (first | subst eo136 | (injection eo136 with f1_ f2_ f3_;have f4_:=f1_.symm;have f5_:=f3_.symm;clear f1_ f2_ f3_;subst f4_;subst f5_))
      refine hK.out _ _ ⟨(blk_cell BK19.out 0).trans rfl,(blk_cell BK2.out 0).trans rfl⟩ (fun hHeld=>?_)
      clear hK K
      refine norm_ (a':=?_) ?_ ?_
      rotate_left
      ·show Act.put _ (some 42) _ = _
       simp only [Act.put,List.setIfInBounds_toArray,List.set_cons_zero,List.set_cons_succ,i64_w,i32_w]
       rfl
      refine one_ (i:=3) (N:=some 43) #[true,true,true,true,false] rfl rfl (by kernel_rfl) (by decide) (fun K hK=>?_)
      refine goes_ Try.func21 (by kernel_rfl) rfl #[.agg #[.slice Ao123 t16.length co123],.agg #[.slice Ao136 t25.length co136]] (by rfl) rfl rfl lm_ ?_
      with_reducible refine (laws_eqHeap.calls k _ _ t16 _ _ t25 false _ ?side1 ?side2 ?side3 ?side4 A60.out).mono ?_
      (case side1=>repeat (first | exact (Kd.R_reads' HO18.out).2.2 | (with_reducible refine Kd.C_alloc ?_ _) | (with_reducible refine Kd.C_drewN ?_ _) | (with_reducible refine Kd.C_drew ?_)))
      (case side2=>exact (Kd.R_reads' HO18.out).2.1)
      (case side3=>repeat (first | exact (Kd.R_reads' HO27.out).2.2 | (with_reducible refine Kd.C_alloc ?_ _) | (with_reducible refine Kd.C_drewN ?_ _) | (with_reducible refine Kd.C_drew ?_)))
      (case side4=>exact (Kd.R_reads' HO27.out).2.1)
      rintro e w137 ⟨rfl,hb⟩
      refine ⟨_,rfl,?_⟩
      have n0_:=a0_ (Kd.R_below (rr_ HO7.out) hb)
      have n1_:=a0_ (Kd.R_below (rr_ HO10.out) hb)
      have n2_:=a0_ (Kd.R_below (rr_ HO14.out) hb)
      have n3_:=a0_ (Kd.R_below (rr_ HO18.out) hb)
      have n4_:=a0_ (Kd.R_below (rr_ HO23.out) hb)
      have n5_:=a0_ (Kd.R_below (rr_ HO27.out) hb)
      have n6_:=a0_ (blk_below (g:=gb1) (o:=.cells #[.slice A0_0 l0_0.length c0_0] 24 (0,0)) (bb_ BK1.out) hb)
      have n7_:=a0_ (blk_below (g:=gb2) (o:=.cells #[.slice A1_0 l1_0.length c1_0] 27 (0,0)) (bb_ BK2.out) hb)
      have n8_:=a0_ (blk_below (g:=gb15) (o:=.cells #[.slice Ao116 t12.length co116] 33 (0,0)) (bb_ BK15.out) hb)
      have n9_:=a0_ (blk_below (g:=gb19) (o:=.cells #[.slice Ao123 t16.length co123] 37 (0,0)) (bb_ BK19.out) hb)
      have n10_:=a0_ (below_step hb_ hb)
      clear HO7
      clear HO10
      clear HO14
      clear HO18
      clear HO23
      clear HO27
      clear BK1
      clear BK2
      clear BK15
      clear BK19
      clear HB
      have HO7:=n0_
      have HO10:=n1_
      have HO14:=n2_
      have HO18:=n3_
      have HO23:=n4_
      have HO27:=n5_
      have BK1:=n6_
      have BK2:=n7_
      have BK15:=n8_
      have BK19:=n9_
      have HB:=n10_
      clear n0_ n1_ n2_ n3_ n4_ n5_ n6_ n7_ n8_ n9_ n10_
      (try clear hb)
      (try clear hb2)
      (try clear hk)
      (try clear hi)
      refine hK.out _ _ ⟨(blk_cell BK19.out 0).trans rfl,(blk_cell BK2.out 0).trans rfl⟩ (fun hHeld=>?_)
      clear hK K
      refine norm_ (a':=?_) ?_ ?_
      rotate_left
      ·show Act.put _ (some 43) _ = _
       simp only [Act.put,List.setIfInBounds_toArray,List.set_cons_zero,List.set_cons_succ,i64_w,i32_w]
       rfl
      refine pure_ (i:=4) (N:=some 44) (v:=?_) (a':=?_) #[true,true,true,true,true] rfl rfl (by kernel_rfl) (fun _ _ _ h=>h) (Or.inl ⟨by rfl,?_⟩) ?_ ?_
      rotate_left
      ·intro w'
       go_simp
       with_reducible rfl
      rotate_left
      ·simp only [Act.put,List.setIfInBounds_toArray,List.set_cons_zero,List.set_cons_succ,i64_w,i32_w]
       rfl
      refine done_ (by kernel_rfl) ?_
      try go_wp2
      go_ret
      exact ⟨by first | rfl | (simp [errW_none,errW_some] <;> rfl) | (simp [*,errW_none,errW_some] <;> rfl),hb_⟩
    ·replace c58:=Bool.eq_false_iff.mpr c58
     subst c58
     have H1 : (some false) = some r:=by rw [if_neg (show ¬ (false = true) by decide)] at H;exact H
     clear H
     have H:=H1
     clear H1
     obtain rfl:=Option.some.inj H
     go_enter Try.func3,Try.ntmps3
     try go_wp2_with (first | ((with_reducible refine gate_dst (N:=2) rfl ?_);refine box_event ?hg (N:=2) ?hd (cs:=#[.slice A0_0 l0_0.length c0_0]) (t:=24) ?hr ?_;(case hd=>rfl);(case hg=>rfl);(case hr=>first | (go_simp;done) | (go_simp;rfl));intro gb1 hg w138 hbox hb;have n0_:=a0_ (below_step hb_ hb);have n1_:=a0_ (hbox);have n2_:=a0_ ((by rw [hg];exact (below_size hb_) : w.heap.size ≤ gb1));have n3_:=a0_ ((by rw [hg];exact (below_size hb_) : w.heap.size ≤ gb1));clear HB;have HB:=n0_;have BK1:=n1_;have GW1:=n2_;have GE1:=n3_;clear n0_ n1_ n2_ n3_;clear hb hbox hg) | ((with_reducible refine gate_dst (N:=3) rfl ?_);refine box_event ?hg (N:=3) ?hd (cs:=#[.slice A1_0 l1_0.length c1_0]) (t:=27) ?hr ?_;(case hd=>rfl);(case hg=>rfl);(case hr=>first | (go_simp;done) | (go_simp;rfl));intro gb2 hg w139 hbox hb;have n0_:=a0_ (blk_below (g:=gb1) (o:=.cells #[.slice A0_0 l0_0.length c0_0] 24 (0,0)) (bb_ BK1.out) hb);have n1_:=a0_ (below_step hb_ hb);have n2_:=a0_ (hbox);have n3_:=a0_ ((by rw [hg];exact (below_size hb_) : w.heap.size ≤ gb2));have n4_:=a0_ ((by rw [hg];exact (below_size hb_) : w.heap.size ≤ gb2));have n5_:=a0_ ((by rw [hg];exact Nat.ne_of_lt (blk_lt (g:=gb1) (o:=.cells #[.slice A0_0 l0_0.length c0_0] 24 (0,0)) (bb_ BK1.out)) : gb1 ≠ gb2));have n6_:=a0_ ((by rw [hg];exact Nat.ne_of_gt (blk_lt (g:=gb1) (o:=.cells #[.slice A0_0 l0_0.length c0_0] 24 (0,0)) (bb_ BK1.out)) : gb2 ≠ gb1));clear BK1 HB;have BK1:=n0_;have HB:=n1_;have BK2:=n2_;have GW2:=n3_;have GE2:=n4_;have NB1_2:=n5_;have NB2_1:=n6_;clear n0_ n1_ n2_ n3_ n4_ n5_ n6_;clear hb hbox hg;have hnb140:=NB1_2.out;have hnc140:=NB2_1.out;have hcz141_0 : w139.cell? ⟨gb1,0,none⟩ = some (.slice A0_0 l0_0.length c0_0):=(blk_cell BK1.out 0).trans rfl;have hfz141_0:=blk_frozen BK1.out 0) | ((with_reducible refine gate_callee (f:=14) rfl ?_);refine goesL_ (some 12) rfl rfl Try.func14 (by kernel_rfl) rfl #[.agg #[.slice A0_0 l0_0.length c0_0],.int .i64 1048576] rfl lm_ ?_;(with_reducible refine (laws_szTree.calls k _ _ l0_0 1048576 t3 _ ?side1 ?side2 A3.out).mono ?_);(case side1=>exact cc_ (Kd.C_below HR0_0.out HB.out));(case side2=>exact HC0_0.out);rintro e w142 ⟨rfl,hb⟩;refine ⟨_,rfl,?_⟩;have n0_:=a0_ (blk_below (g:=gb1) (o:=.cells #[.slice A0_0 l0_0.length c0_0] 24 (0,0)) (bb_ BK1.out) hb);have n1_:=a0_ (blk_below (g:=gb2) (o:=.cells #[.slice A1_0 l1_0.length c1_0] 27 (0,0)) (bb_ BK2.out) hb);have n2_:=a0_ (below_step hb_ hb);clear BK1 BK2 HB;have BK1:=n0_;have BK2:=n1_;have HB:=n2_;clear n0_ n1_ n2_;(try clear hb);(try clear hb2);(try clear hk);(try clear hi);have hcz143_0 : w142.cell? ⟨gb2,0,none⟩ = some (.slice A1_0 l1_0.length c1_0):=(blk_cell BK2.out 0).trans rfl;have hfz143_0:=blk_frozen BK2.out 0) | ((with_reducible refine gate_callee (f:=15) rfl ?_);refine goesL_ (some 17) rfl rfl Try.func15 (by kernel_rfl) rfl #[.agg #[.slice A1_0 l1_0.length c1_0],.int .i64 t3] rfl lm_ ?_;(with_reducible refine (laws_szHeap.calls _ _ l1_0 t3 t4 _ ?side1 ?side2 A10.out).mono ?_);(case side1=>exact cc_ (Kd.C_below HR1_0.out HB.out));(case side2=>exact HC1_0.out);rintro e w144 ⟨rfl,hb⟩;refine ⟨_,rfl,?_⟩;have n0_:=a0_ (blk_below (g:=gb1) (o:=.cells #[.slice A0_0 l0_0.length c0_0] 24 (0,0)) (bb_ BK1.out) hb);have n1_:=a0_ (blk_below (g:=gb2) (o:=.cells #[.slice A1_0 l1_0.length c1_0] 27 (0,0)) (bb_ BK2.out) hb);have n2_:=a0_ (below_step hb_ hb);clear BK1 BK2 HB;have BK1:=n0_;have BK2:=n1_;have HB:=n2_;clear n0_ n1_ n2_;(try clear hb);(try clear hb2);(try clear hk);(try clear hi)))
     have n0_:=a0_ (blk_drew BK1.out)
     have n1_:=a0_ (blk_drew BK2.out)
     have n2_:=a0_ (below_drew1 HB.out)
     clear BK1
     clear BK2
     clear HB
     have BK1:=n0_
     have BK2:=n1_
     have HB:=n2_
     clear n0_ n1_ n2_
     refine start_ (n:=6) (S:=fun w'=>w'.cell? ⟨gb1,0,none⟩ = some (.slice A0_0 l0_0.length c0_0) ∧ w'.cell? ⟨gb2,0,none⟩ = some (.slice A1_0 l1_0.length c1_0)) (ds:=[]) #[false,false,false,false,false,false] (by kernel_rfl) rfl rfl ⟨(blk_cell BK1.out 0).trans rfl,(blk_cell BK2.out 0).trans rfl⟩ (fun hHeld=>?_)
     generalize w144.drew = w145 at BK1 BK2 HB hHeld ⊢
     refine take_ (i:=0) (N:=some 20) (v:=?_) (a':=?_) #[true,false,false,false,false,false] rfl rfl (by kernel_rfl) (fun _ _ _ h=>h) (Or.inl ⟨by rfl,?_⟩) hHeld ?_ ?_
     rotate_left
     ·rintro w' ⟨s0,s1⟩
      go_simp
      with_reducible rfl
     rotate_left
     ·simp only [Act.put,List.setIfInBounds_toArray,List.set_cons_zero,List.set_cons_succ,i64_w,i32_w]
      rfl
     refine take_ (i:=2) (N:=some 22) (v:=?_) (a':=?_) #[true,false,true,false,false,false] rfl rfl (by kernel_rfl) (fun _ _ _ h=>h) (Or.inl ⟨by rfl,?_⟩) hHeld ?_ ?_
     rotate_left
     ·rintro w' ⟨s0,s1⟩
      go_simp
      with_reducible rfl
     rotate_left
     ·simp only [Act.put,List.setIfInBounds_toArray,List.set_cons_zero,List.set_cons_succ,i64_w,i32_w]
      rfl
     refine one_ (i:=1) (N:=some 21) #[true,true,true,false,false,false] rfl rfl (by kernel_rfl) (by decide) (fun K hK=>?_)
     refine goes_ Try.func17 (by kernel_rfl) rfl #[.agg #[.slice A0_0 l0_0.length c0_0]] (by rfl) rfl rfl lm_ ?_
     with_reducible refine (laws_toTree.calls k _ _ l0_0 t5 _ ?side1 ?side2 A19.out).mono ?_
     (case side1=>exact cc_ (Kd.C_below HR0_0.out HB.out))
     (case side2=>exact HC0_0.out)
     rintro e w146 ⟨v6,rfl,ho0,hb⟩
     refine ⟨_,rfl,?_⟩
     have n0_:=a0_ (Kd.R_lower ho0 (below_size hb_))
     have n1_:=a0_ (blk_below (g:=gb1) (o:=.cells #[.slice A0_0 l0_0.length c0_0] 24 (0,0)) (bb_ BK1.out) hb)
     have n2_:=a0_ (blk_below (g:=gb2) (o:=.cells #[.slice A1_0 l1_0.length c1_0] 27 (0,0)) (bb_ BK2.out) hb)
     have n3_:=a0_ (below_step hb_ hb)
     clear BK1
     clear BK2
     clear HB
     have HO7:=n0_
     have BK1:=n1_
     have BK2:=n2_
     have HB:=n3_
     clear n0_ n1_ n2_ n3_
     (try clear hb)
     (try clear hb2)
     (try clear hk)
     (try clear hi)
     (try clear ho0)
     refine hK.out _ _ ⟨(blk_cell BK1.out 0).trans rfl,(blk_cell BK2.out 0).trans rfl⟩ (fun hHeld=>?_)
     clear hK K
     refine norm_ (a':=?_) ?_ ?_
     rotate_left
     ·show Act.put _ (some 21) _ = _
      simp only [Act.put,List.setIfInBounds_toArray,List.set_cons_zero,List.set_cons_succ,i64_w,i32_w]
      rfl
     refine one_ (i:=3) (N:=some 23) #[true,true,true,true,false,false] rfl rfl (by kernel_rfl) (by decide) (fun K hK=>?_)
     refine goes_ Try.func18 (by kernel_rfl) rfl #[.agg #[.slice A1_0 l1_0.length c1_0]] (by rfl) rfl rfl lm_ ?_
     with_reducible refine (laws_toHeap.calls k _ _ l1_0 t8 _ ?side1 ?side2 A20.out).mono ?_
     (case side1=>exact cc_ (Kd.C_below HR1_0.out HB.out))
     (case side2=>exact HC1_0.out)
     rintro e w147 ⟨v9,rfl,ho0,hb⟩
     refine ⟨_,rfl,?_⟩
     have n0_:=a0_ (Kd.R_below (rr_ HO7.out) hb)
     have n1_:=a0_ (Kd.R_lower ho0 (below_size hb_))
     have n2_:=a0_ (blk_below (g:=gb1) (o:=.cells #[.slice A0_0 l0_0.length c0_0] 24 (0,0)) (bb_ BK1.out) hb)
     have n3_:=a0_ (blk_below (g:=gb2) (o:=.cells #[.slice A1_0 l1_0.length c1_0] 27 (0,0)) (bb_ BK2.out) hb)
     have n4_:=a0_ (below_step hb_ hb)
     clear HO7
     clear BK1
     clear BK2
     clear HB
     have HO7:=n0_
     have HO10:=n1_
     have BK1:=n2_
     have BK2:=n3_
     have HB:=n4_
     clear n0_ n1_ n2_ n3_ n4_
     (try clear hb)
     (try clear hb2)
     (try clear hk)
     (try clear hi)
     (try clear ho0)
     obtain ⟨Ao148,co148,eo148⟩:=Kd.R_slice HO7.out
     (first | subst eo148 | (injection eo148 with f1_ f2_ f3_;have f4_:=f1_.symm;have f5_:=f3_.symm;clear f1_ f2_ f3_;subst f4_;subst f5_))
     obtain ⟨Ao149,co149,eo149⟩:=Kd.R_slice HO10.out
     (first | subst eo149 | (injection eo149 with f1_ f2_ f3_;have f4_:=f1_.symm;have f5_:=f3_.symm;clear f1_ f2_ f3_;subst f4_;subst f5_))
     refine hK.out _ _ ⟨(blk_cell BK1.out 0).trans rfl,(blk_cell BK2.out 0).trans rfl⟩ (fun hHeld=>?_)
     clear hK K
     refine norm_ (a':=?_) ?_ ?_
     rotate_left
     ·show Act.put _ (some 23) _ = _
      simp only [Act.put,List.setIfInBounds_toArray,List.set_cons_zero,List.set_cons_succ,i64_w,i32_w]
      rfl
     refine one_ (i:=4) (N:=some 24) #[true,true,true,true,true,false] rfl rfl (by kernel_rfl) (by decide) (fun K hK=>?_)
     refine goes_ Try.func16 (by kernel_rfl) rfl #[.agg #[.slice Ao148 t5.length co148],.agg #[.slice Ao149 t8.length co149]] (by rfl) rfl rfl lm_ ?_
     with_reducible refine (spec_ValidHeap.calls k _ _ t5 _ _ t8 t11 _ ?side1 ?side2 ?side3 ?side4 A21.out).mono ?_
     (case side1=>repeat (first | exact (Kd.R_reads' HO7.out).2.2 | (with_reducible refine Kd.C_alloc ?_ _) | (with_reducible refine Kd.C_drewN ?_ _) | (with_reducible refine Kd.C_drew ?_)))
     (case side2=>exact (Kd.R_reads' HO7.out).2.1)
     (case side3=>repeat (first | exact (Kd.R_reads' HO10.out).2.2 | (with_reducible refine Kd.C_alloc ?_ _) | (with_reducible refine Kd.C_drewN ?_ _) | (with_reducible refine Kd.C_drew ?_)))
     (case side4=>exact (Kd.R_reads' HO10.out).2.1)
     rintro e w150 ⟨rfl,hb⟩
     refine ⟨_,rfl,?_⟩
     have n0_:=a0_ (Kd.R_below (rr_ HO7.out) hb)
     have n1_:=a0_ (Kd.R_below (rr_ HO10.out) hb)
     have n2_:=a0_ (blk_below (g:=gb1) (o:=.cells #[.slice A0_0 l0_0.length c0_0] 24 (0,0)) (bb_ BK1.out) hb)
     have n3_:=a0_ (blk_below (g:=gb2) (o:=.cells #[.slice A1_0 l1_0.length c1_0] 27 (0,0)) (bb_ BK2.out) hb)
     have n4_:=a0_ (below_step hb_ hb)
     clear HO7
     clear HO10
     clear BK1
     clear BK2
     clear HB
     have HO7:=n0_
     have HO10:=n1_
     have BK1:=n2_
     have BK2:=n3_
     have HB:=n4_
     clear n0_ n1_ n2_ n3_ n4_
     (try clear hb)
     (try clear hb2)
     (try clear hk)
     (try clear hi)
     refine hK.out _ _ ⟨(blk_cell BK1.out 0).trans rfl,(blk_cell BK2.out 0).trans rfl⟩ (fun hHeld=>?_)
     clear hK K
     refine norm_ (a':=?_) ?_ ?_
     rotate_left
     ·show Act.put _ (some 24) _ = _
      simp only [Act.put,List.setIfInBounds_toArray,List.set_cons_zero,List.set_cons_succ,i64_w,i32_w]
      rfl
     refine pure_ (i:=5) (N:=some 6) (v:=?_) (a':=?_) #[true,true,true,true,true,true] rfl rfl (by kernel_rfl) (fun _ _ _ h=>h) (Or.inl ⟨by rfl,?_⟩) ?_ ?_
     rotate_left
     ·intro w'
      go_simp
      with_reducible rfl
     rotate_left
     ·simp only [Act.put,List.setIfInBounds_toArray,List.set_cons_zero,List.set_cons_succ,i64_w,i32_w]
      rfl
     refine done_ (by kernel_rfl) ?_
     have hcz151_0 : w150.cell? ⟨gb1,0,none⟩ = some (.slice A0_0 l0_0.length c0_0):=(blk_cell BK1.out 0).trans rfl
     have hfz151_0:=blk_frozen BK1.out 0
     try go_wp2_with (first | ((with_reducible refine gate_callee (f:=17) rfl ?_);refine goesL_ (some 26) rfl rfl Try.func17 (by kernel_rfl) rfl #[.agg #[.slice A0_0 l0_0.length c0_0]] rfl lm_ ?_;(with_reducible refine (laws_toTree.calls k _ _ l0_0 t12 _ ?side1 ?side2 A22.out).mono ?_);(case side1=>exact cc_ (Kd.C_below HR0_0.out HB.out));(case side2=>exact HC0_0.out);rintro e w152 ⟨v13,rfl,ho0,hb⟩;refine ⟨_,rfl,?_⟩;have n0_:=a0_ (Kd.R_elder' (rr_ HO7.out) (Kd.R_base ho0) hb);have n1_:=a0_ (Kd.R_below (rr_ HO10.out) hb);have n2_:=a0_ (Kd.R_lower (Kd.R_new' ho0 (Kd.R_lt (rr_ HO7.out))) (below_size hb_));have n3_:=a0_ (blk_below (g:=gb1) (o:=.cells #[.slice A0_0 l0_0.length c0_0] 24 (0,0)) (bb_ BK1.out) hb);have n4_:=a0_ (blk_below (g:=gb2) (o:=.cells #[.slice A1_0 l1_0.length c1_0] 27 (0,0)) (bb_ BK2.out) hb);have n5_:=a0_ (below_step hb_ hb);clear HO7 HO10;clear BK1 BK2 HB;have HO7:=n0_;have HO10:=n1_;have HO14:=n2_;have BK1:=n3_;have BK2:=n4_;have HB:=n5_;clear n0_ n1_ n2_ n3_ n4_ n5_;(try clear hb);(try clear hb2);(try clear hk);(try clear hi);(try clear ho0)) | ((with_reducible refine gate_dst (N:=7) rfl ?_);refine box_event ?hg (N:=7) ?hd (cs:=#[.slice none 0 0]) (t:=33) ?hr ?_;(case hd=>rfl);(case hg=>rfl);(case hr=>first | (go_simp;done) | (go_simp;rfl));intro gb15 hg w153 hbox hb;have n0_:=a0_ (Kd.R_below (rr_ HO7.out) hb);have n1_:=a0_ (Kd.R_below (rr_ HO10.out) hb);have n2_:=a0_ (Kd.R_below (rr_ HO14.out) hb);have n3_:=a0_ (blk_below (g:=gb1) (o:=.cells #[.slice A0_0 l0_0.length c0_0] 24 (0,0)) (bb_ BK1.out) hb);have n4_:=a0_ (blk_below (g:=gb2) (o:=.cells #[.slice A1_0 l1_0.length c1_0] 27 (0,0)) (bb_ BK2.out) hb);have n5_:=a0_ (below_step hb_ hb);have n6_:=a0_ (hbox);have n7_:=a0_ ((by rw [hg];exact (below_size hb_) : w.heap.size ≤ gb15));have n8_:=a0_ ((by rw [hg];exact (below_size hb_) : w.heap.size ≤ gb15));have n9_:=a0_ ((by rw [hg];exact Nat.ne_of_lt (blk_lt (g:=gb1) (o:=.cells #[.slice A0_0 l0_0.length c0_0] 24 (0,0)) (bb_ BK1.out)) : gb1 ≠ gb15));have n10_:=a0_ ((by rw [hg];exact Nat.ne_of_gt (blk_lt (g:=gb1) (o:=.cells #[.slice A0_0 l0_0.length c0_0] 24 (0,0)) (bb_ BK1.out)) : gb15 ≠ gb1));have n11_:=a0_ ((by rw [hg];exact Nat.ne_of_lt (blk_lt (g:=gb2) (o:=.cells #[.slice A1_0 l1_0.length c1_0] 27 (0,0)) (bb_ BK2.out)) : gb2 ≠ gb15));have n12_:=a0_ ((by rw [hg];exact Nat.ne_of_gt (blk_lt (g:=gb2) (o:=.cells #[.slice A1_0 l1_0.length c1_0] 27 (0,0)) (bb_ BK2.out)) : gb15 ≠ gb2));clear HO7 HO10;clear HO14 BK1;clear BK2 HB;have HO7:=n0_;have HO10:=n1_;have HO14:=n2_;have BK1:=n3_;have BK2:=n4_;have HB:=n5_;have BK15:=n6_;have GW15:=n7_;have GE15:=n8_;have NB1_15:=n9_;have NB15_1:=n10_;have NB2_15:=n11_;have NB15_2:=n12_;clear n0_ n1_ n2_ n3_ n4_ n5_ n6_ n7_ n8_ n9_ n10_ n11_ n12_;clear hb hbox hg;obtain ⟨Ao154,co154,eo154⟩:=Kd.R_slice HO14.out;subst eo154;have hnb155:=NB15_1.out;have hnc155:=NB1_15.out;have hnb156:=NB15_2.out;have hnc156:=NB2_15.out;have hcz157_0 : w153.cell? ⟨gb15,0,none⟩ = some (.slice none 0 0):=(blk_cell BK15.out 0).trans rfl;have hfz157_0:=blk_frozen BK15.out 0;have hcz158_0 : w153.cell? ⟨gb2,0,none⟩ = some (.slice A1_0 l1_0.length c1_0):=(blk_cell BK2.out 0).trans rfl;have hfz158_0:=blk_frozen BK2.out 0) | ((with_reducible refine gate_callee (f:=18) rfl ?_);refine goesL_ (some 28) rfl rfl Try.func18 (by kernel_rfl) rfl #[.agg #[.slice A1_0 l1_0.length c1_0]] rfl lm_ ?_;(with_reducible refine (laws_toHeap.calls k _ _ l1_0 t16 _ ?side1 ?side2 A23.out).mono ?_);(case side1=>exact Kd.C_below HR1_0.out hb_);(case side2=>exact HC1_0.out);rintro e w159 ⟨v17,rfl,ho0,hb⟩;refine ⟨_,rfl,?_⟩;have n0_:=a0_ (Kd.R_below (by (with_reducible repeat (first | apply Kd.R_alloc | apply Kd.R_drewN | apply Kd.R_drew));exact (Kd.R_mono (Kd.R_far (p:=⟨gb15,0,none⟩) (Kd.R_types HO7.out BK15.out (by decide)) (fun _ hk=>hk.2) (.slice Ao154 t12.length co154)) (fun _ h_=>h_.1))) hb);have n1_:=a0_ (Kd.R_elder' (by (with_reducible repeat (first | apply Kd.R_alloc | apply Kd.R_drewN | apply Kd.R_drew));exact (Kd.R_mono (Kd.R_far (p:=⟨gb15,0,none⟩) (Kd.R_types HO10.out BK15.out (by decide)) (fun _ hk=>hk.2) (.slice Ao154 t12.length co154)) (fun _ h_=>h_.1))) (Kd.R_base ho0) hb);have n2_:=a0_ (Kd.R_below (by (with_reducible repeat (first | apply Kd.R_alloc | apply Kd.R_drewN | apply Kd.R_drew));exact (Kd.R_mono (Kd.R_far (p:=⟨gb15,0,none⟩) (Kd.R_types HO14.out BK15.out (by decide)) (fun _ hk=>hk.2) (.slice Ao154 t12.length co154)) (fun _ h_=>h_.1))) hb);have n3_:=a0_ (Kd.R_lower (Kd.R_new' ho0 (Kd.R_lt (by (with_reducible repeat (first | apply Kd.R_alloc | apply Kd.R_drewN | apply Kd.R_drew));exact (Kd.R_mono (Kd.R_far (p:=⟨gb15,0,none⟩) (Kd.R_types HO10.out BK15.out (by decide)) (fun _ hk=>hk.2) (.slice Ao154 t12.length co154)) (fun _ h_=>h_.1))))) (below_size hb_));have n4_:=a0_ (blk_below (g:=gb1) (o:=.cells #[.slice A0_0 l0_0.length c0_0] 24 (0,0)) (by (with_reducible repeat (first | refine blk_drewN ?_ _ | refine blk_drew ?_ | refine blk_alloc ?_ _));refine blk_far ?_ NB1_15.out _;(with_reducible repeat (first | refine blk_drewN ?_ _ | refine blk_drew ?_ | refine blk_alloc ?_ _));exact BK1.out) hb);have n5_:=a0_ (blk_below (g:=gb2) (o:=.cells #[.slice A1_0 l1_0.length c1_0] 27 (0,0)) (by (with_reducible repeat (first | refine blk_drewN ?_ _ | refine blk_drew ?_ | refine blk_alloc ?_ _));refine blk_far ?_ NB2_15.out _;(with_reducible repeat (first | refine blk_drewN ?_ _ | refine blk_drew ?_ | refine blk_alloc ?_ _));exact BK2.out) hb);have n6_:=a0_ (blk_below (g:=gb15) (o:=.cells #[.slice Ao154 t12.length co154] 33 (0,0)) (by (with_reducible repeat (first | refine blk_drewN ?_ _ | refine blk_drew ?_ | refine blk_alloc ?_ _));refine blk_put (cs:=#[.slice none 0 0]) ?_ 0 _ rfl;(with_reducible repeat (first | refine blk_drewN ?_ _ | refine blk_drew ?_ | refine blk_alloc ?_ _));exact BK15.out) hb);have n7_:=a0_ (below_step hb_ hb);clear HO7 HO10;clear HO14 BK1;clear BK2 BK15 HB;have HO7:=n0_;have HO10:=n1_;have HO14:=n2_;have HO18:=n3_;have BK1:=n4_;have BK2:=n5_;have BK15:=n6_;have HB:=n7_;clear n0_ n1_ n2_ n3_ n4_ n5_ n6_ n7_;(try clear hb);(try clear hb2);(try clear hk);(try clear hi);(try clear ho0)) | ((with_reducible refine gate_dst (N:=8) rfl ?_);refine box_event ?hg (N:=8) ?hd (cs:=#[.slice none 0 0]) (t:=37) ?hr ?_;(case hd=>rfl);(case hg=>rfl);(case hr=>first | (go_simp;done) | (go_simp;rfl));intro gb19 hg w160 hbox hb;have n0_:=a0_ (Kd.R_below (rr_ HO7.out) hb);have n1_:=a0_ (Kd.R_below (rr_ HO10.out) hb);have n2_:=a0_ (Kd.R_below (rr_ HO14.out) hb);have n3_:=a0_ (Kd.R_below (rr_ HO18.out) hb);have n4_:=a0_ (blk_below (g:=gb1) (o:=.cells #[.slice A0_0 l0_0.length c0_0] 24 (0,0)) (bb_ BK1.out) hb);have n5_:=a0_ (blk_below (g:=gb2) (o:=.cells #[.slice A1_0 l1_0.length c1_0] 27 (0,0)) (bb_ BK2.out) hb);have n6_:=a0_ (blk_below (g:=gb15) (o:=.cells #[.slice Ao154 t12.length co154] 33 (0,0)) (bb_ BK15.out) hb);have n7_:=a0_ (below_step hb_ hb);have n8_:=a0_ (hbox);have n9_:=a0_ ((by rw [hg];exact (below_size hb_) : w.heap.size ≤ gb19));have n10_:=a0_ ((by rw [hg];exact (below_size hb_) : w.heap.size ≤ gb19));have n11_:=a0_ ((by rw [hg];exact Nat.ne_of_lt (blk_lt (g:=gb1) (o:=.cells #[.slice A0_0 l0_0.length c0_0] 24 (0,0)) (bb_ BK1.out)) : gb1 ≠ gb19));have n12_:=a0_ ((by rw [hg];exact Nat.ne_of_gt (blk_lt (g:=gb1) (o:=.cells #[.slice A0_0 l0_0.length c0_0] 24 (0,0)) (bb_ BK1.out)) : gb19 ≠ gb1));have n13_:=a0_ ((by rw [hg];exact Nat.ne_of_lt (blk_lt (g:=gb2) (o:=.cells #[.slice A1_0 l1_0.length c1_0] 27 (0,0)) (bb_ BK2.out)) : gb2 ≠ gb19));have n14_:=a0_ ((by rw [hg];exact Nat.ne_of_gt (blk_lt (g:=gb2) (o:=.cells #[.slice A1_0 l1_0.length c1_0] 27 (0,0)) (bb_ BK2.out)) : gb19 ≠ gb2));have n15_:=a0_ ((by rw [hg];exact Nat.ne_of_lt (blk_lt (g:=gb15) (o:=.cells #[.slice Ao154 t12.length co154] 33 (0,0)) (bb_ BK15.out)) : gb15 ≠ gb19));have n16_:=a0_ ((by rw [hg];exact Nat.ne_of_gt (blk_lt (g:=gb15) (o:=.cells #[.slice Ao154 t12.length co154] 33 (0,0)) (bb_ BK15.out)) : gb19 ≠ gb15));clear HO7 HO10;clear HO14 HO18;clear BK1 BK2;clear BK15 HB;have HO7:=n0_;have HO10:=n1_;have HO14:=n2_;have HO18:=n3_;have BK1:=n4_;have BK2:=n5_;have BK15:=n6_;have HB:=n7_;have BK19:=n8_;have GW19:=n9_;have GE19:=n10_;have NB1_19:=n11_;have NB19_1:=n12_;have NB2_19:=n13_;have NB19_2:=n14_;have NB15_19:=n15_;have NB19_15:=n16_;clear n0_ n1_ n2_ n3_ n4_ n5_ n6_ n7_ n8_ n9_ n10_ n11_ n12_ n13_ n14_ n15_ n16_;clear hb hbox hg;obtain ⟨Ao161,co161,eo161⟩:=Kd.R_slice HO18.out;subst eo161;have hnb162:=NB19_1.out;have hnc162:=NB1_19.out;have hnb163:=NB19_2.out;have hnc163:=NB2_19.out;have hnb164:=NB19_15.out;have hnc164:=NB15_19.out;have hcz165_0 : w160.cell? ⟨gb19,0,none⟩ = some (.slice none 0 0):=(blk_cell BK19.out 0).trans rfl;have hfz165_0:=blk_frozen BK19.out 0;have hcz166_0 : w160.cell? ⟨gb15,0,none⟩ = some (.slice Ao154 t12.length co154):=(blk_cell BK15.out 0).trans rfl;have hfz166_0:=blk_frozen BK15.out 0) | ((with_reducible refine gate_callee (f:=19) rfl ?_);refine goesL_ (some 31) rfl rfl Try.func19 (by kernel_rfl) rfl #[.agg #[.slice Ao154 t12.length co154],.agg #[.slice Ao161 t16.length co161]] rfl lm_ ?_;(with_reducible refine (impl_ValidHeap.calls _ _ t12 _ _ t16 t20 _ ?side1 ?side2 ?side3 ?side4 A24.out).mono ?_);(case side1=>refine (Kd.R_reads' (e:=106) (base:=w.heap.size) (ok:=fun k_=>(True ∧ some k_ ≠ (.slice Ao148 t5.length co148 : Value).ownBlock)) (n:=t12.length) (c:=co154) ?_).2.2;exact (by (with_reducible repeat (first | apply Kd.R_alloc | apply Kd.R_drewN | apply Kd.R_drew));exact (Kd.R_mono (Kd.R_far (p:=⟨gb19,0,none⟩) (Kd.R_types HO14.out BK19.out (by decide)) (fun _ hk=>hk.2) (.slice Ao161 t16.length co161)) (fun _ h_=>h_.1))));(case side2=>exact (Kd.R_reads' HO14.out).2.1);(case side3=>refine (Kd.R_reads' (e:=79) (base:=w.heap.size) (ok:=fun k_=>(True ∧ some k_ ≠ (.slice Ao149 t8.length co149 : Value).ownBlock)) (n:=t16.length) (c:=co161) ?_).2.2;exact (by (with_reducible repeat (first | apply Kd.R_alloc | apply Kd.R_drewN | apply Kd.R_drew));exact (Kd.R_mono (Kd.R_far (p:=⟨gb19,0,none⟩) (Kd.R_types HO18.out BK19.out (by decide)) (fun _ hk=>hk.2) (.slice Ao161 t16.length co161)) (fun _ h_=>h_.1))));(case side4=>exact (Kd.R_reads' HO18.out).2.1);rintro e w167 ⟨rfl,hb⟩;refine ⟨_,rfl,?_⟩;have n0_:=a0_ (Kd.R_below (by (with_reducible repeat (first | apply Kd.R_alloc | apply Kd.R_drewN | apply Kd.R_drew));exact (Kd.R_mono (Kd.R_far (p:=⟨gb19,0,none⟩) (Kd.R_types HO7.out BK19.out (by decide)) (fun _ hk=>hk.2) (.slice Ao161 t16.length co161)) (fun _ h_=>h_.1))) hb);have n1_:=a0_ (Kd.R_below (by (with_reducible repeat (first | apply Kd.R_alloc | apply Kd.R_drewN | apply Kd.R_drew));exact (Kd.R_mono (Kd.R_far (p:=⟨gb19,0,none⟩) (Kd.R_types HO10.out BK19.out (by decide)) (fun _ hk=>hk.2) (.slice Ao161 t16.length co161)) (fun _ h_=>h_.1))) hb);have n2_:=a0_ (Kd.R_below (by (with_reducible repeat (first | apply Kd.R_alloc | apply Kd.R_drewN | apply Kd.R_drew));exact (Kd.R_mono (Kd.R_far (p:=⟨gb19,0,none⟩) (Kd.R_types HO14.out BK19.out (by decide)) (fun _ hk=>hk.2) (.slice Ao161 t16.length co161)) (fun _ h_=>h_.1))) hb);have n3_:=a0_ (Kd.R_below (by (with_reducible repeat (first | apply Kd.R_alloc | apply Kd.R_drewN | apply Kd.R_drew));exact (Kd.R_mono (Kd.R_far (p:=⟨gb19,0,none⟩) (Kd.R_types HO18.out BK19.out (by decide)) (fun _ hk=>hk.2) (.slice Ao161 t16.length co161)) (fun _ h_=>h_.1))) hb);have n4_:=a0_ (blk_below (g:=gb1) (o:=.cells #[.slice A0_0 l0_0.length c0_0] 24 (0,0)) (by (with_reducible repeat (first | refine blk_drewN ?_ _ | refine blk_drew ?_ | refine blk_alloc ?_ _));refine blk_far ?_ NB1_19.out _;(with_reducible repeat (first | refine blk_drewN ?_ _ | refine blk_drew ?_ | refine blk_alloc ?_ _));exact BK1.out) hb);have n5_:=a0_ (blk_below (g:=gb2) (o:=.cells #[.slice A1_0 l1_0.length c1_0] 27 (0,0)) (by (with_reducible repeat (first | refine blk_drewN ?_ _ | refine blk_drew ?_ | refine blk_alloc ?_ _));refine blk_far ?_ NB2_19.out _;(with_reducible repeat (first | refine blk_drewN ?_ _ | refine blk_drew ?_ | refine blk_alloc ?_ _));exact BK2.out) hb);have n6_:=a0_ (blk_below (g:=gb15) (o:=.cells #[.slice Ao154 t12.length co154] 33 (0,0)) (by (with_reducible repeat (first | refine blk_drewN ?_ _ | refine blk_drew ?_ | refine blk_alloc ?_ _));refine blk_far ?_ NB15_19.out _;(with_reducible repeat (first | refine blk_drewN ?_ _ | refine blk_drew ?_ | refine blk_alloc ?_ _));exact BK15.out) hb);have n7_:=a0_ (blk_below (g:=gb19) (o:=.cells #[.slice Ao161 t16.length co161] 37 (0,0)) (by (with_reducible repeat (first | refine blk_drewN ?_ _ | refine blk_drew ?_ | refine blk_alloc ?_ _));refine blk_put (cs:=#[.slice none 0 0]) ?_ 0 _ rfl;(with_reducible repeat (first | refine blk_drewN ?_ _ | refine blk_drew ?_ | refine blk_alloc ?_ _));exact BK19.out) hb);have n8_:=a0_ (below_step hb_ hb);clear HO7 HO10;clear HO14 HO18;clear BK1 BK2;clear BK15 BK19 HB;have HO7:=n0_;have HO10:=n1_;have HO14:=n2_;have HO18:=n3_;have BK1:=n4_;have BK2:=n5_;have BK15:=n6_;have BK19:=n7_;have HB:=n8_;clear n0_ n1_ n2_ n3_ n4_ n5_ n6_ n7_ n8_;(try clear hb);(try clear hb2);(try clear hk);(try clear hi)))
     have n0_:=a0_ (Kd.R_drew HO7.out)
     have n1_:=a0_ (Kd.R_drew HO10.out)
     have n2_:=a0_ (Kd.R_drew HO14.out)
     have n3_:=a0_ (Kd.R_drew HO18.out)
     have n4_:=a0_ (blk_drew BK1.out)
     have n5_:=a0_ (blk_drew BK2.out)
     have n6_:=a0_ (blk_drew BK15.out)
     have n7_:=a0_ (blk_drew BK19.out)
     have n8_:=a0_ (below_drew1 HB.out)
     clear HO7
     clear HO10
     clear HO14
     clear HO18
     clear BK1
     clear BK2
     clear BK15
     clear BK19
     clear HB
     have HO7:=n0_
     have HO10:=n1_
     have HO14:=n2_
     have HO18:=n3_
     have BK1:=n4_
     have BK2:=n5_
     have BK15:=n6_
     have BK19:=n7_
     have HB:=n8_
     clear n0_ n1_ n2_ n3_ n4_ n5_ n6_ n7_ n8_
     refine start_ (n:=5) (S:=fun w'=>w'.cell? ⟨gb15,0,none⟩ = some (.slice Ao154 t12.length co154) ∧ w'.cell? ⟨gb1,0,none⟩ = some (.slice A0_0 l0_0.length c0_0)) (ds:=[]) #[false,false,false,false,false] (by kernel_rfl) rfl rfl ⟨(blk_cell BK15.out 0).trans rfl,(blk_cell BK1.out 0).trans rfl⟩ (fun hHeld=>?_)
     generalize w167.drew = w168 at HO7 HO10 HO14 HO18 BK1 BK2 BK15 BK19 HB hHeld ⊢
     refine take_ (i:=0) (N:=some 35) (v:=?_) (a':=?_) #[true,false,false,false,false] rfl rfl (by kernel_rfl) (fun _ _ _ h=>h) (Or.inl ⟨by rfl,?_⟩) hHeld ?_ ?_
     rotate_left
     ·rintro w' ⟨s0,s1⟩
      go_simp
      with_reducible rfl
     rotate_left
     ·simp only [Act.put,List.setIfInBounds_toArray,List.set_cons_zero,List.set_cons_succ,i64_w,i32_w]
      rfl
     refine take_ (i:=1) (N:=some 36) (v:=?_) (a':=?_) #[true,true,false,false,false] rfl rfl (by kernel_rfl) (fun _ _ _ h=>h) (Or.inl ⟨by rfl,?_⟩) hHeld ?_ ?_
     rotate_left
     ·rintro w' ⟨s0,s1⟩
      go_simp
      with_reducible rfl
     rotate_left
     ·simp only [Act.put,List.setIfInBounds_toArray,List.set_cons_zero,List.set_cons_succ,i64_w,i32_w]
      rfl
     refine one_ (i:=2) (N:=some 37) #[true,true,true,false,false] rfl rfl (by kernel_rfl) (by decide) (fun K hK=>?_)
     refine goes_ Try.func17 (by kernel_rfl) rfl #[.agg #[.slice A0_0 l0_0.length c0_0]] (by rfl) rfl rfl lm_ ?_
     with_reducible refine (laws_toTree.calls k _ _ l0_0 t21 _ ?side1 ?side2 A56.out).mono ?_
     (case side1=>exact cc_ (Kd.C_below HR0_0.out HB.out))
     (case side2=>exact HC0_0.out)
     rintro e w169 ⟨v22,rfl,ho0,hb⟩
     refine ⟨_,rfl,?_⟩
     have n0_:=a0_ (Kd.R_elder' (rr_ HO7.out) (Kd.R_base ho0) hb)
     have n1_:=a0_ (Kd.R_below (rr_ HO10.out) hb)
     have n2_:=a0_ (Kd.R_elder' (rr_ HO14.out) (Kd.R_base ho0) hb)
     have n3_:=a0_ (Kd.R_below (rr_ HO18.out) hb)
     have n4_:=a0_ (Kd.R_lower (Kd.R_new' (Kd.R_new' ho0 (Kd.R_lt (rr_ HO7.out))) (Kd.R_lt (rr_ HO14.out))) (below_size hb_))
     have n5_:=a0_ (blk_below (g:=gb1) (o:=.cells #[.slice A0_0 l0_0.length c0_0] 24 (0,0)) (bb_ BK1.out) hb)
     have n6_:=a0_ (blk_below (g:=gb2) (o:=.cells #[.slice A1_0 l1_0.length c1_0] 27 (0,0)) (bb_ BK2.out) hb)
     have n7_:=a0_ (blk_below (g:=gb15) (o:=.cells #[.slice Ao154 t12.length co154] 33 (0,0)) (bb_ BK15.out) hb)
     have n8_:=a0_ (blk_below (g:=gb19) (o:=.cells #[.slice Ao161 t16.length co161] 37 (0,0)) (bb_ BK19.out) hb)
     have n9_:=a0_ (below_step hb_ hb)
     clear HO7
     clear HO10
     clear HO14
     clear HO18
     clear BK1
     clear BK2
     clear BK15
     clear BK19
     clear HB
     have HO7:=n0_
     have HO10:=n1_
     have HO14:=n2_
     have HO18:=n3_
     have HO23:=n4_
     have BK1:=n5_
     have BK2:=n6_
     have BK15:=n7_
     have BK19:=n8_
     have HB:=n9_
     clear n0_ n1_ n2_ n3_ n4_ n5_ n6_ n7_ n8_ n9_
     (try clear hb)
     (try clear hb2)
     (try clear hk)
     (try clear hi)
     (try clear ho0)
     obtain ⟨Ao170,co170,eo170⟩:=Kd.R_slice HO23.out
     (first | subst eo170 | (injection eo170 with f1_ f2_ f3_;have f4_:=f1_.symm;have f5_:=f3_.symm;clear f1_ f2_ f3_;subst f4_;subst f5_))
     refine hK.out _ _ ⟨(blk_cell BK15.out 0).trans rfl,(blk_cell BK1.out 0).trans rfl⟩ (fun hHeld=>?_)
     clear hK K
     refine norm_ (a':=?_) ?_ ?_
     rotate_left
     ·show Act.put _ (some 37) _ = _
      simp only [Act.put,List.setIfInBounds_toArray,List.set_cons_zero,List.set_cons_succ,i64_w,i32_w]
      rfl
     refine one_ (i:=3) (N:=some 38) #[true,true,true,true,false] rfl rfl (by kernel_rfl) (by decide) (fun K hK=>?_)
     refine goes_ Try.func20 (by kernel_rfl) rfl #[.agg #[.slice Ao154 t12.length co154],.agg #[.slice Ao170 t21.length co170]] (by rfl) rfl rfl lm_ ?_
     with_reducible refine (laws_eqTree.calls k _ _ t12 _ _ t21 false _ ?side1 ?side2 ?side3 ?side4 A57.out).mono ?_
     (case side1=>repeat (first | exact (Kd.R_reads' HO14.out).2.2 | (with_reducible refine Kd.C_alloc ?_ _) | (with_reducible refine Kd.C_drewN ?_ _) | (with_reducible refine Kd.C_drew ?_)))
     (case side2=>exact (Kd.R_reads' HO14.out).2.1)
     (case side3=>repeat (first | exact (Kd.R_reads' HO23.out).2.2 | (with_reducible refine Kd.C_alloc ?_ _) | (with_reducible refine Kd.C_drewN ?_ _) | (with_reducible refine Kd.C_drew ?_)))
     (case side4=>exact (Kd.R_reads' HO23.out).2.1)
     rintro e w171 ⟨rfl,hb⟩
     refine ⟨_,rfl,?_⟩
     have n0_:=a0_ (Kd.R_below (rr_ HO7.out) hb)
     have n1_:=a0_ (Kd.R_below (rr_ HO10.out) hb)
     have n2_:=a0_ (Kd.R_below (rr_ HO14.out) hb)
     have n3_:=a0_ (Kd.R_below (rr_ HO18.out) hb)
     have n4_:=a0_ (Kd.R_below (rr_ HO23.out) hb)
     have n5_:=a0_ (blk_below (g:=gb1) (o:=.cells #[.slice A0_0 l0_0.length c0_0] 24 (0,0)) (bb_ BK1.out) hb)
     have n6_:=a0_ (blk_below (g:=gb2) (o:=.cells #[.slice A1_0 l1_0.length c1_0] 27 (0,0)) (bb_ BK2.out) hb)
     have n7_:=a0_ (blk_below (g:=gb15) (o:=.cells #[.slice Ao154 t12.length co154] 33 (0,0)) (bb_ BK15.out) hb)
     have n8_:=a0_ (blk_below (g:=gb19) (o:=.cells #[.slice Ao161 t16.length co161] 37 (0,0)) (bb_ BK19.out) hb)
     have n9_:=a0_ (below_step hb_ hb)
     clear HO7
     clear HO10
     clear HO14
     clear HO18
     clear HO23
     clear BK1
     clear BK2
     clear BK15
     clear BK19
     clear HB
     have HO7:=n0_
     have HO10:=n1_
     have HO14:=n2_
     have HO18:=n3_
     have HO23:=n4_
     have BK1:=n5_
     have BK2:=n6_
     have BK15:=n7_
     have BK19:=n8_
     have HB:=n9_
     clear n0_ n1_ n2_ n3_ n4_ n5_ n6_ n7_ n8_ n9_
     (try clear hb)
     (try clear hb2)
     (try clear hk)
     (try clear hi)
     refine hK.out _ _ ⟨(blk_cell BK15.out 0).trans rfl,(blk_cell BK1.out 0).trans rfl⟩ (fun hHeld=>?_)
     clear hK K
     refine norm_ (a':=?_) ?_ ?_
     rotate_left
     ·show Act.put _ (some 38) _ = _
      simp only [Act.put,List.setIfInBounds_toArray,List.set_cons_zero,List.set_cons_succ,i64_w,i32_w]
      rfl
     refine pure_ (i:=4) (N:=some 39) (v:=?_) (a':=?_) #[true,true,true,true,true] rfl rfl (by kernel_rfl) (fun _ _ _ h=>h) (Or.inl ⟨by rfl,?_⟩) ?_ ?_
     rotate_left
     ·intro w'
      go_simp
      with_reducible rfl
     rotate_left
     ·simp only [Act.put,List.setIfInBounds_toArray,List.set_cons_zero,List.set_cons_succ,i64_w,i32_w]
      rfl
     refine done_ (by kernel_rfl) ?_
     try go_wp2
     go_ret
     exact ⟨by first | rfl | (simp [errW_none,errW_some] <;> rfl) | (simp [*,errW_none,errW_some] <;> rfl),hb_⟩
end Go.Proofs.Ytfhcfhffmblacaa.P
namespace Go.Proofs.Ytfhcfhffmblacaa.Pure
open Go.RowKit Go.Proofs.Ytfhcfhffmblacaa.P
set_option linter.unusedVariables false
theorem FnExactValidHeap (l0_0 : List S103) (l1_0 : List S109) (G0_0 : (l0_0.length ≤ maxLen ∧ ∀ x ∈ l0_0,(x.f0.size ≤ maxLen ∧ (Lit.int .i64 x.f1).wf = true))) (G1_0 : (l1_0.length ≤ maxLen ∧ ∀ x ∈ l1_0,((Lit.int .i64 x.f0).wf = true ∧ (Lit.int .i64 x.f1).wf = true ∧ (Lit.int .i64 x.f2).wf = true ∧ (Lit.int .i64 x.f3).wf = true ∧ True))) : ∃ k,laws_FnExactValidHeap.f k l0_0 l1_0 = some true:=by
 have hmax : maxLen = 9223372036854775807:=by decide
 rw [hmax] at G0_0 G1_0
 refine Ev.out (F:=fun k=>laws_FnExactValidHeap.f k l0_0 l1_0) ?_
 unfold laws_FnExactValidHeap.f
 obtain ⟨v0,hv0,hg0⟩:=laws_szTree_ev l0_0 1048576 (by omega) (by omega) G0_0.1 (fun x hx=>(G0_0.2 x hx).1)
 refine Ev.bind hv0 ?_
 by_cases hn0 : v0 < 0
 ·exact Ev.pos hn0 (Ev.const rfl)
 refine Ev.neg hn0 ?_
 obtain ⟨hva0,hl0,hs⟩:=hg0 (by omega)
 obtain ⟨v1,hv1,hg1⟩:=laws_szHeap_ev l1_0 v0 (by omega) (by omega) G1_0.1
 refine Ev.bind hv1 ?_
 by_cases hn1 : v1 < 0
 ·exact Ev.pos hn1 (Ev.const rfl)
 refine Ev.neg hn1 ?_
 obtain ⟨hva1,hl1⟩:=hg1 (by omega)
 have hT0:=laws_toTree_ev l0_0 (by omega)
 have hm0 : (l0_0.map toC).length ≤ 1048576:=by rw [List.length_map];omega
 have hT1:=laws_toHeap_ev l1_0 (by omega)
 have hm1 : (l1_0.map toFault).length ≤ 1048576:=by rw [List.length_map];omega
 have hsm:=smT_of hs
 have hS : Ev (fun k=>spec_ValidHeap.f k (l0_0.map toC) (l1_0.map toFault)) (vH (l0_0.map toC) (l1_0.map toFault)):=spec_ValidHeap_ev (l0_0.map toC) (l1_0.map toFault) hsm (by omega) (by omega)
 have hG : Ev (fun k=>impl_ValidHeap.f (l0_0.map toC) (l1_0.map toFault)) (vH (l0_0.map toC) (l1_0.map toFault)):=Ev.const (impl_ValidHeap_ev (l0_0.map toC) (l1_0.map toFault) hsm (by omega))
 generalize vH (l0_0.map toC) (l1_0.map toFault) = r at hS hG
 refine Ev.bind hT0 (Ev.bind hT1 (Ev.bind hS (Ev.bind hT0 (Ev.bind hT1 (Ev.bind hG (Ev.neg (by simp) ?_))))))
 exact Ev.bind hT0 (Ev.bind (laws_eqTree_ev _ (by omega)) (Ev.pos rfl (Ev.bind hT1 (Ev.bind (laws_eqHeap_ev _ (by omega)) (Ev.pos rfl (Ev.const rfl))))))
end Go.Proofs.Ytfhcfhffmblacaa.Pure
