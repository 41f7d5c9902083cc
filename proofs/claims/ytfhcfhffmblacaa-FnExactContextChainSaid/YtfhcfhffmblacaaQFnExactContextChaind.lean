/- Texts under the proof of FnExactContextChain: helper words, the functions' contracts and the plain laws. No condition. -/
import Derived.Test.YtfhcfhffmblacaaQFnExactContextChaina
import Derived.Test.YtfhcfhffmblacaaQFnExactContextChainb
import Derived.Test.YtfhcfhffmblacaaQFnExactContextChainc
namespace Go.Proofs.Ytfhcfhffmblacaa.P
open Go.RowKit Go.Proofs.YtfhcfhffmblacaaW.PrintWords Go.Proofs.YtfhcfhffmblacaaW.PrintLast Go.Proofs.YtfhcfhffmblacaaW.PrintMore
attribute [local go_sem] max2_int min2_int max_two min_two max_three min_three max_four min_four
set_option linter.unusedVariables false
set_option linter.unusedSimpArgs false
def laws_FnExactContextChain.j0 : Nat → Int → List Int → List Int → Bool → List (S103) → List (S109) → Option (Bool)
 | 0,_,_,_,_,_,_=>none
 | k + 1,x2,x8,x11,x67,x2000,x3000=>if x67 = true then (some false) else ((laws_markIntS.f k x11 1).bind fun bt39=>((laws_heldIntS.f k bt39.2 1).bind fun t41=>(if t41 < 0 then (some false) else (if t41 = bt39.1 then ((laws_toTree.f k x2000).bind fun t42=>((laws_toHeap.f k x3000).bind fun t45=>((impl_ContextChain.f t42 t45 x2).bind fun t48=>((laws_eqIntS.f k t48 x8).bind fun t51=>(if t51 = true then ((laws_heldIntS.f k bt39.2 1).bind fun t52=>(if t52 < 0 then (some false) else (if t52 = bt39.1 then (some true) else (some false)))) else (some false)))))) else (some false)))))
def laws_FnExactContextChain.f (k : Nat) (l0_0 : List (S103)) (l1_0 : List (S109)) (a2 : Int) : Option (Bool):=(laws_szTree.f k l0_0 1048576).bind fun t3=>(if t3 < 0 then (some true) else ((laws_szHeap.f l1_0 t3).bind fun t4=>(if t4 < 0 then (some true) else ((laws_toTree.f k l0_0).bind fun t5=>((laws_toHeap.f k l1_0).bind fun t8=>((spec_ContextChain.f k t5 t8 a2).bind fun t11=>((laws_toTree.f k l0_0).bind fun t14=>((laws_toHeap.f k l1_0).bind fun t18=>((impl_ContextChain.f t14 t18 a2).bind fun t22=>((laws_eqIntS.f k t22 t11).bind fun t25=>(if t25 = true then ((laws_toTree.f k l0_0).bind fun t26=>((laws_eqTree.f k t14 t26).bind fun t29=>(if t29 = true then ((laws_toHeap.f k l1_0).bind fun t30=>((laws_eqHeap.f k t18 t30).bind fun t33=>(if t33 = true then ((laws_markTree.f k t14 1).bind fun bt34=>((laws_markHeap.f k t18 bt34.1).bind fun bt36=>(if bt36.1 < 0 then (laws_FnExactContextChain.j0 k a2 t11 t22 true l0_0 l1_0) else ((laws_eqIntS.f k t22 t11).bind fun t38=>(laws_FnExactContextChain.j0 k a2 t11 t22 (!t38) l0_0 l1_0))))) else (some false)))) else (some false)))) else (some false))))))))))))
theorem laws_FnExactContextChain.mono_l : ∀ k,(∀ y0 y1 y2 y3 y4 y5,LeO (laws_FnExactContextChain.j0 k y0 y1 y2 y3 y4 y5) (laws_FnExactContextChain.j0 (k + 1) y0 y1 y2 y3 y4 y5))
 | 0=>fun _ _ _ _ _ _ r h=>by simp [laws_FnExactContextChain.j0] at h
 | k + 1=>by
  have ih0:=laws_FnExactContextChain.mono_l k
  ·intro y0 y1 y2 y3 y4 y5
   unfold laws_FnExactContextChain.j0
   repeat' first
   | (with_reducible exact ih0 _ _ _ _ _ _)
   | (with_reducible exact laws_eqHeap.mono _ _ _)
   | (with_reducible exact laws_eqIntS.mono _ _ _)
   | (with_reducible exact laws_eqTree.mono _ _ _)
   | (with_reducible exact laws_heldIntS.mono _ _ _)
   | (with_reducible exact laws_markHeap.mono _ _ _)
   | (with_reducible exact laws_markIntS.mono _ _ _)
   | (with_reducible exact laws_markTree.mono _ _ _)
   | (with_reducible exact laws_szTree.mono _ _ _)
   | (with_reducible exact laws_toHeap.mono _ _)
   | (with_reducible exact laws_toTree.mono _ _)
   | (with_reducible exact spec_ContextChain.mono _ _ _ _)
   | (with_reducible exact LeO.refl _)
   | (with_reducible exact LeO.none _)
   | (with_reducible refine LeO.ite ?_ ?_)
   | (with_reducible refine LeO.bind ?_ (fun _=>?_))
   | exact ih0 _ _ _ _ _ _
   | exact laws_eqHeap.mono _ _ _
   | exact laws_eqIntS.mono _ _ _
   | exact laws_eqTree.mono _ _ _
   | exact laws_heldIntS.mono _ _ _
   | exact laws_markHeap.mono _ _ _
   | exact laws_markIntS.mono _ _ _
   | exact laws_markTree.mono _ _ _
   | exact laws_szTree.mono _ _ _
   | exact laws_toHeap.mono _ _
   | exact laws_toTree.mono _ _
   | exact spec_ContextChain.mono _ _ _ _
   | exact LeO.none _
   | refine LeO.ite ?_ ?_
   | refine LeO.bind ?_ (fun _=>?_)
theorem laws_FnExactContextChain.mono : ∀ a0 a1 a2 k,LeO (laws_FnExactContextChain.f k a0 a1 a2) (laws_FnExactContextChain.f (k + 1) a0 a1 a2):=by
 intro a0 a1 a2 k
 have ih0:=laws_FnExactContextChain.mono_l k
 unfold laws_FnExactContextChain.f
 repeat' first
   | (with_reducible exact ih0 _ _ _ _ _ _)
   | (with_reducible exact laws_eqHeap.mono _ _ _)
   | (with_reducible exact laws_eqIntS.mono _ _ _)
   | (with_reducible exact laws_eqTree.mono _ _ _)
   | (with_reducible exact laws_heldIntS.mono _ _ _)
   | (with_reducible exact laws_markHeap.mono _ _ _)
   | (with_reducible exact laws_markIntS.mono _ _ _)
   | (with_reducible exact laws_markTree.mono _ _ _)
   | (with_reducible exact laws_szTree.mono _ _ _)
   | (with_reducible exact laws_toHeap.mono _ _)
   | (with_reducible exact laws_toTree.mono _ _)
   | (with_reducible exact spec_ContextChain.mono _ _ _ _)
   | (with_reducible exact LeO.refl _)
   | (with_reducible exact LeO.none _)
   | (with_reducible refine LeO.ite ?_ ?_)
   | (with_reducible refine LeO.bind ?_ (fun _=>?_))
   | exact ih0 _ _ _ _ _ _
   | exact laws_eqHeap.mono _ _ _
   | exact laws_eqIntS.mono _ _ _
   | exact laws_eqTree.mono _ _ _
   | exact laws_heldIntS.mono _ _ _
   | exact laws_markHeap.mono _ _ _
   | exact laws_markIntS.mono _ _ _
   | exact laws_markTree.mono _ _ _
   | exact laws_szTree.mono _ _ _
   | exact laws_toHeap.mono _ _
   | exact laws_toTree.mono _ _
   | exact spec_ContextChain.mono _ _ _ _
   | exact LeO.none _
   | refine LeO.ite ?_ ?_
   | refine LeO.bind ?_ (fun _=>?_)
set_option maxHeartbeats 8000000 in
set_option maxRecDepth 100000 in
theorem laws_FnExactContextChain.calls (k : Nat) (A0_0 : Option Addr) (c0_0 : Nat) (l0_0 : List (S103)) (A1_0 : Option Addr) (c1_0 : Nat) (l1_0 : List (S109)) (a2 : Int) (r : Bool) (w : World) (hr0_0 : Kd.C k103 w A0_0 l0_0.length l0_0) (hc0_0 : l0_0.length ≤ c0_0) (hr1_0 : Kd.C k109 w A1_0 l1_0.length l1_0) (hc1_0 : l1_0.length ≤ c1_0) (h : laws_FnExactContextChain.f k l0_0 l1_0 a2 = some r) :
  Calls Try.prog 7 #[.agg #[.slice A0_0 l0_0.length c0_0],.agg #[.slice A1_0 l1_0.length c1_0],.int .i64 a2] w fun e w'=>e = .returned (.bool r) ∧ Below w.heap.size w w':=by
 have hu24:=Try.underlying24
 have hu27:=Try.underlying27
 have hu33:=Try.underlying33
 have hu37:=Try.underlying37
 have HR0_0:=a0_ hr0_0
 have HC0_0:=a0_ hc0_0
 clear hr0_0 hc0_0
 have HR1_0:=a0_ hr1_0
 have HC1_0:=a0_ hc1_0
 clear hr1_0 hc1_0
 have HB:=a0_ (Below.refl w.heap.size w)
 have H : ((laws_szTree.f k l0_0 1048576).bind fun t3=>(if t3 < 0 then (some true) else ((laws_szHeap.f l1_0 t3).bind fun t4=>(if t4 < 0 then (some true) else ((laws_toTree.f k l0_0).bind fun t5=>((laws_toHeap.f k l1_0).bind fun t8=>((spec_ContextChain.f k t5 t8 a2).bind fun t11=>((laws_toTree.f k l0_0).bind fun t14=>((laws_toHeap.f k l1_0).bind fun t18=>((impl_ContextChain.f t14 t18 a2).bind fun t22=>((laws_eqIntS.f k t22 t11).bind fun t25=>(if t25 = true then ((laws_toTree.f k l0_0).bind fun t26=>((laws_eqTree.f k t14 t26).bind fun t29=>(if t29 = true then ((laws_toHeap.f k l1_0).bind fun t30=>((laws_eqHeap.f k t18 t30).bind fun t33=>(if t33 = true then ((laws_markTree.f k t14 1).bind fun bt34=>((laws_markHeap.f k t18 bt34.1).bind fun bt36=>(if bt36.1 < 0 then (laws_FnExactContextChain.j0 k a2 t11 t22 true l0_0 l1_0) else ((laws_eqIntS.f k t22 t11).bind fun t38=>(laws_FnExactContextChain.j0 k a2 t11 t22 (!t38) l0_0 l1_0))))) else (some false)))) else (some false)))) else (some false))))))))))))) = some r:=h
 clear h
 replace H:=Option.bind_eq_some_iff.mp H
 obtain ⟨t3,A40,H⟩:=H
 replace H : (if t3 < 0 then (some true) else ((laws_szHeap.f l1_0 t3).bind fun t4=>(if t4 < 0 then (some true) else ((laws_toTree.f k l0_0).bind fun t5=>((laws_toHeap.f k l1_0).bind fun t8=>((spec_ContextChain.f k t5 t8 a2).bind fun t11=>((laws_toTree.f k l0_0).bind fun t14=>((laws_toHeap.f k l1_0).bind fun t18=>((impl_ContextChain.f t14 t18 a2).bind fun t22=>((laws_eqIntS.f k t22 t11).bind fun t25=>(if t25 = true then ((laws_toTree.f k l0_0).bind fun t26=>((laws_eqTree.f k t14 t26).bind fun t29=>(if t29 = true then ((laws_toHeap.f k l1_0).bind fun t30=>((laws_eqHeap.f k t18 t30).bind fun t33=>(if t33 = true then ((laws_markTree.f k t14 1).bind fun bt34=>((laws_markHeap.f k t18 bt34.1).bind fun bt36=>(if bt36.1 < 0 then (laws_FnExactContextChain.j0 k a2 t11 t22 true l0_0 l1_0) else ((laws_eqIntS.f k t22 t11).bind fun t38=>(laws_FnExactContextChain.j0 k a2 t11 t22 (!t38) l0_0 l1_0))))) else (some false)))) else (some false)))) else (some false)))))))))))) = some r:=H
 have A4:=a0_ A40
 clear A40
 by_cases c5 : t3 < 0
 ·rw [if_pos c5] at H
  have c5b0 : decide (t3 < 0) = true:=decide_eq_true c5
  clear c5
  obtain rfl:=Option.some.inj H
  go_enter Try.func7,Try.ntmps7
  go_wp2_with (first | ((with_reducible refine gate_dst (N:=3) rfl ?_);refine box_event ?hg (N:=3) ?hd (cs:=#[.slice A0_0 l0_0.length c0_0]) (t:=24) ?hr ?_;(case hd=>rfl);(case hg=>rfl);(case hr=>first | (go_simp;done) | (go_simp;rfl));intro gb1 hg w6 hbox hb;have BK1:=a0_ (hbox);have GW1:=a0_ ((by rw [hg];exact (below_size hb_) : w.heap.size ≤ gb1));have GE1:=a0_ ((by rw [hg];exact (below_size hb_) : w.heap.size ≤ gb1));replace HB:=a0_ (below_step hb_ hb);clear hb hbox hg) | ((with_reducible refine gate_dst (N:=4) rfl ?_);refine box_event ?hg (N:=4) ?hd (cs:=#[.slice A1_0 l1_0.length c1_0]) (t:=27) ?hr ?_;(case hd=>rfl);(case hg=>rfl);(case hr=>first | (go_simp;done) | (go_simp;rfl));intro gb2 hg w7 hbox hb;have n0_:=kb_ BK1 hb;have n1_:=a0_ (below_step hb_ hb);have n2_:=a0_ (hbox);have n3_:=a0_ ((by rw [hg];exact (below_size hb_) : w.heap.size ≤ gb2));have n4_:=a0_ ((by rw [hg];exact (below_size hb_) : w.heap.size ≤ gb2));have n5_:=a0_ ((by rw [hg];exact Nat.ne_of_lt (blk_lt (bb_ BK1.1)) : gb1 ≠ gb2));have n6_:=a0_ ((by rw [hg];exact Nat.ne_of_gt (blk_lt (bb_ BK1.1)) : gb2 ≠ gb1));clear BK1 HB;have BK1:=n0_;have HB:=n1_;have BK2:=n2_;have GW2:=n3_;have GE2:=n4_;have NB1_2:=n5_;have NB2_1:=n6_;clear n0_ n1_ n2_ n3_ n4_ n5_ n6_;clear hb hbox hg;have hnb8:=NB1_2.1;have hnc8:=NB2_1.1;have hcz9_0 : w7.cell? ⟨gb1,0,none⟩ = some (.slice A0_0 l0_0.length c0_0):=(blk_cell BK1.1 0).trans rfl;have hfz9_0:=blk_frozen BK1.1 0) | ((with_reducible refine gate_callee (f:=14) rfl ?_);refine goesL_ (some 18) rfl rfl Try.func14 (by kernel_rfl) rfl #[.agg #[.slice A0_0 l0_0.length c0_0],.int .i64 1048576] rfl lm_ ?_;(with_reducible refine (laws_szTree.calls k _ _ l0_0 1048576 t3 _ ?side1 ?side2 A4.1).mono ?_);(case side1=>exact cc_ (Kd.C_below HR0_0.1 HB.1));(case side2=>exact HC0_0.1);rintro e w10 ⟨rfl,hb⟩;refine ⟨_,rfl,?_⟩;replace BK1:=kb_ BK1 hb;replace BK2:=kb_ BK2 hb;replace HB:=a0_ (below_step hb_ hb);(try clear hb);(try clear hb2);(try clear hk);(try clear hi)))
  go_ret
  exact ⟨by first | rfl | (simp [errW_none,errW_some] <;> rfl) | (simp [*,errW_none,errW_some] <;> rfl),hb_⟩
 ·rw [if_neg c5] at H
  have c5b0 : decide (t3 < 0) = false:=decide_eq_false c5
  clear c5
  replace H:=Option.bind_eq_some_iff.mp H
  obtain ⟨t4,A110,H⟩:=H
  replace H : (if t4 < 0 then (some true) else ((laws_toTree.f k l0_0).bind fun t5=>((laws_toHeap.f k l1_0).bind fun t8=>((spec_ContextChain.f k t5 t8 a2).bind fun t11=>((laws_toTree.f k l0_0).bind fun t14=>((laws_toHeap.f k l1_0).bind fun t18=>((impl_ContextChain.f t14 t18 a2).bind fun t22=>((laws_eqIntS.f k t22 t11).bind fun t25=>(if t25 = true then ((laws_toTree.f k l0_0).bind fun t26=>((laws_eqTree.f k t14 t26).bind fun t29=>(if t29 = true then ((laws_toHeap.f k l1_0).bind fun t30=>((laws_eqHeap.f k t18 t30).bind fun t33=>(if t33 = true then ((laws_markTree.f k t14 1).bind fun bt34=>((laws_markHeap.f k t18 bt34.1).bind fun bt36=>(if bt36.1 < 0 then (laws_FnExactContextChain.j0 k a2 t11 t22 true l0_0 l1_0) else ((laws_eqIntS.f k t22 t11).bind fun t38=>(laws_FnExactContextChain.j0 k a2 t11 t22 (!t38) l0_0 l1_0))))) else (some false)))) else (some false)))) else (some false)))))))))) = some r:=H
  have A11:=a0_ A110
  clear A110
  by_cases c12 : t4 < 0
  ·rw [if_pos c12] at H
   have c12b0 : decide (t4 < 0) = true:=decide_eq_true c12
   clear c12
   obtain rfl:=Option.some.inj H
   go_enter Try.func7,Try.ntmps7
   go_wp2_with (first | ((with_reducible refine gate_dst (N:=3) rfl ?_);refine box_event ?hg (N:=3) ?hd (cs:=#[.slice A0_0 l0_0.length c0_0]) (t:=24) ?hr ?_;(case hd=>rfl);(case hg=>rfl);(case hr=>first | (go_simp;done) | (go_simp;rfl));intro gb1 hg w13 hbox hb;have BK1:=a0_ (hbox);have GW1:=a0_ ((by rw [hg];exact (below_size hb_) : w.heap.size ≤ gb1));have GE1:=a0_ ((by rw [hg];exact (below_size hb_) : w.heap.size ≤ gb1));replace HB:=a0_ (below_step hb_ hb);clear hb hbox hg) | ((with_reducible refine gate_dst (N:=4) rfl ?_);refine box_event ?hg (N:=4) ?hd (cs:=#[.slice A1_0 l1_0.length c1_0]) (t:=27) ?hr ?_;(case hd=>rfl);(case hg=>rfl);(case hr=>first | (go_simp;done) | (go_simp;rfl));intro gb2 hg w14 hbox hb;have n0_:=kb_ BK1 hb;have n1_:=a0_ (below_step hb_ hb);have n2_:=a0_ (hbox);have n3_:=a0_ ((by rw [hg];exact (below_size hb_) : w.heap.size ≤ gb2));have n4_:=a0_ ((by rw [hg];exact (below_size hb_) : w.heap.size ≤ gb2));have n5_:=a0_ ((by rw [hg];exact Nat.ne_of_lt (blk_lt (bb_ BK1.1)) : gb1 ≠ gb2));have n6_:=a0_ ((by rw [hg];exact Nat.ne_of_gt (blk_lt (bb_ BK1.1)) : gb2 ≠ gb1));clear BK1 HB;have BK1:=n0_;have HB:=n1_;have BK2:=n2_;have GW2:=n3_;have GE2:=n4_;have NB1_2:=n5_;have NB2_1:=n6_;clear n0_ n1_ n2_ n3_ n4_ n5_ n6_;clear hb hbox hg;have hnb15:=NB1_2.1;have hnc15:=NB2_1.1;have hcz16_0 : w14.cell? ⟨gb1,0,none⟩ = some (.slice A0_0 l0_0.length c0_0):=(blk_cell BK1.1 0).trans rfl;have hfz16_0:=blk_frozen BK1.1 0) | ((with_reducible refine gate_callee (f:=14) rfl ?_);refine goesL_ (some 18) rfl rfl Try.func14 (by kernel_rfl) rfl #[.agg #[.slice A0_0 l0_0.length c0_0],.int .i64 1048576] rfl lm_ ?_;(with_reducible refine (laws_szTree.calls k _ _ l0_0 1048576 t3 _ ?side1 ?side2 A4.1).mono ?_);(case side1=>exact cc_ (Kd.C_below HR0_0.1 HB.1));(case side2=>exact HC0_0.1);rintro e w17 ⟨rfl,hb⟩;refine ⟨_,rfl,?_⟩;replace BK1:=kb_ BK1 hb;replace BK2:=kb_ BK2 hb;replace HB:=a0_ (below_step hb_ hb);(try clear hb);have hcz18_0 : w17.cell? ⟨gb2,0,none⟩ = some (.slice A1_0 l1_0.length c1_0):=(blk_cell BK2.1 0).trans rfl;have hfz18_0:=blk_frozen BK2.1 0) | ((with_reducible refine gate_callee (f:=15) rfl ?_);refine goesL_ (some 23) rfl rfl Try.func15 (by kernel_rfl) rfl #[.agg #[.slice A1_0 l1_0.length c1_0],.int .i64 t3] rfl lm_ ?_;(with_reducible refine (laws_szHeap.calls _ _ l1_0 t3 t4 _ ?side1 ?side2 A11.1).mono ?_);(case side1=>exact cc_ (Kd.C_below HR1_0.1 HB.1));(case side2=>exact HC1_0.1);rintro e w19 ⟨rfl,hb⟩;refine ⟨_,rfl,?_⟩;replace BK1:=kb_ BK1 hb;replace BK2:=kb_ BK2 hb;replace HB:=a0_ (below_step hb_ hb);(try clear hb);(try clear hb2);(try clear hk);(try clear hi)))
   go_ret
   exact ⟨by first | rfl | (simp [errW_none,errW_some] <;> rfl) | (simp [*,errW_none,errW_some] <;> rfl),hb_⟩
  ·rw [if_neg c12] at H
   have c12b0 : decide (t4 < 0) = false:=decide_eq_false c12
   clear c12
   replace H:=Option.bind_eq_some_iff.mp H
   obtain ⟨t5,A200,H⟩:=H
   replace H : ((laws_toHeap.f k l1_0).bind fun t8=>((spec_ContextChain.f k t5 t8 a2).bind fun t11=>((laws_toTree.f k l0_0).bind fun t14=>((laws_toHeap.f k l1_0).bind fun t18=>((impl_ContextChain.f t14 t18 a2).bind fun t22=>((laws_eqIntS.f k t22 t11).bind fun t25=>(if t25 = true then ((laws_toTree.f k l0_0).bind fun t26=>((laws_eqTree.f k t14 t26).bind fun t29=>(if t29 = true then ((laws_toHeap.f k l1_0).bind fun t30=>((laws_eqHeap.f k t18 t30).bind fun t33=>(if t33 = true then ((laws_markTree.f k t14 1).bind fun bt34=>((laws_markHeap.f k t18 bt34.1).bind fun bt36=>(if bt36.1 < 0 then (laws_FnExactContextChain.j0 k a2 t11 t22 true l0_0 l1_0) else ((laws_eqIntS.f k t22 t11).bind fun t38=>(laws_FnExactContextChain.j0 k a2 t11 t22 (!t38) l0_0 l1_0))))) else (some false)))) else (some false)))) else (some false)))))))) = some r:=H
   have A20:=a0_ A200
   clear A200
   replace H:=Option.bind_eq_some_iff.mp H
   obtain ⟨t8,A210,H⟩:=H
   replace H : ((spec_ContextChain.f k t5 t8 a2).bind fun t11=>((laws_toTree.f k l0_0).bind fun t14=>((laws_toHeap.f k l1_0).bind fun t18=>((impl_ContextChain.f t14 t18 a2).bind fun t22=>((laws_eqIntS.f k t22 t11).bind fun t25=>(if t25 = true then ((laws_toTree.f k l0_0).bind fun t26=>((laws_eqTree.f k t14 t26).bind fun t29=>(if t29 = true then ((laws_toHeap.f k l1_0).bind fun t30=>((laws_eqHeap.f k t18 t30).bind fun t33=>(if t33 = true then ((laws_markTree.f k t14 1).bind fun bt34=>((laws_markHeap.f k t18 bt34.1).bind fun bt36=>(if bt36.1 < 0 then (laws_FnExactContextChain.j0 k a2 t11 t22 true l0_0 l1_0) else ((laws_eqIntS.f k t22 t11).bind fun t38=>(laws_FnExactContextChain.j0 k a2 t11 t22 (!t38) l0_0 l1_0))))) else (some false)))) else (some false)))) else (some false))))))) = some r:=H
   have A21:=a0_ A210
   clear A210
   replace H:=Option.bind_eq_some_iff.mp H
   obtain ⟨t11,A220,H⟩:=H
   replace H : ((laws_toTree.f k l0_0).bind fun t14=>((laws_toHeap.f k l1_0).bind fun t18=>((impl_ContextChain.f t14 t18 a2).bind fun t22=>((laws_eqIntS.f k t22 t11).bind fun t25=>(if t25 = true then ((laws_toTree.f k l0_0).bind fun t26=>((laws_eqTree.f k t14 t26).bind fun t29=>(if t29 = true then ((laws_toHeap.f k l1_0).bind fun t30=>((laws_eqHeap.f k t18 t30).bind fun t33=>(if t33 = true then ((laws_markTree.f k t14 1).bind fun bt34=>((laws_markHeap.f k t18 bt34.1).bind fun bt36=>(if bt36.1 < 0 then (laws_FnExactContextChain.j0 k a2 t11 t22 true l0_0 l1_0) else ((laws_eqIntS.f k t22 t11).bind fun t38=>(laws_FnExactContextChain.j0 k a2 t11 t22 (!t38) l0_0 l1_0))))) else (some false)))) else (some false)))) else (some false)))))) = some r:=H
   have A22:=a0_ A220
   clear A220
   replace H:=Option.bind_eq_some_iff.mp H
   obtain ⟨t14,A230,H⟩:=H
   replace H : ((laws_toHeap.f k l1_0).bind fun t18=>((impl_ContextChain.f t14 t18 a2).bind fun t22=>((laws_eqIntS.f k t22 t11).bind fun t25=>(if t25 = true then ((laws_toTree.f k l0_0).bind fun t26=>((laws_eqTree.f k t14 t26).bind fun t29=>(if t29 = true then ((laws_toHeap.f k l1_0).bind fun t30=>((laws_eqHeap.f k t18 t30).bind fun t33=>(if t33 = true then ((laws_markTree.f k t14 1).bind fun bt34=>((laws_markHeap.f k t18 bt34.1).bind fun bt36=>(if bt36.1 < 0 then (laws_FnExactContextChain.j0 k a2 t11 t22 true l0_0 l1_0) else ((laws_eqIntS.f k t22 t11).bind fun t38=>(laws_FnExactContextChain.j0 k a2 t11 t22 (!t38) l0_0 l1_0))))) else (some false)))) else (some false)))) else (some false))))) = some r:=H
   have A23:=a0_ A230
   clear A230
   replace H:=Option.bind_eq_some_iff.mp H
   obtain ⟨t18,A240,H⟩:=H
   replace H : ((impl_ContextChain.f t14 t18 a2).bind fun t22=>((laws_eqIntS.f k t22 t11).bind fun t25=>(if t25 = true then ((laws_toTree.f k l0_0).bind fun t26=>((laws_eqTree.f k t14 t26).bind fun t29=>(if t29 = true then ((laws_toHeap.f k l1_0).bind fun t30=>((laws_eqHeap.f k t18 t30).bind fun t33=>(if t33 = true then ((laws_markTree.f k t14 1).bind fun bt34=>((laws_markHeap.f k t18 bt34.1).bind fun bt36=>(if bt36.1 < 0 then (laws_FnExactContextChain.j0 k a2 t11 t22 true l0_0 l1_0) else ((laws_eqIntS.f k t22 t11).bind fun t38=>(laws_FnExactContextChain.j0 k a2 t11 t22 (!t38) l0_0 l1_0))))) else (some false)))) else (some false)))) else (some false)))) = some r:=H
   have A24:=a0_ A240
   clear A240
   replace H:=Option.bind_eq_some_iff.mp H
   obtain ⟨t22,A250,H⟩:=H
   replace H : ((laws_eqIntS.f k t22 t11).bind fun t25=>(if t25 = true then ((laws_toTree.f k l0_0).bind fun t26=>((laws_eqTree.f k t14 t26).bind fun t29=>(if t29 = true then ((laws_toHeap.f k l1_0).bind fun t30=>((laws_eqHeap.f k t18 t30).bind fun t33=>(if t33 = true then ((laws_markTree.f k t14 1).bind fun bt34=>((laws_markHeap.f k t18 bt34.1).bind fun bt36=>(if bt36.1 < 0 then (laws_FnExactContextChain.j0 k a2 t11 t22 true l0_0 l1_0) else ((laws_eqIntS.f k t22 t11).bind fun t38=>(laws_FnExactContextChain.j0 k a2 t11 t22 (!t38) l0_0 l1_0))))) else (some false)))) else (some false)))) else (some false))) = some r:=H
   have A25:=a0_ A250
   clear A250
   replace H:=Option.bind_eq_some_iff.mp H
   obtain ⟨t25,A260,H⟩:=H
   replace H : (if t25 = true then ((laws_toTree.f k l0_0).bind fun t26=>((laws_eqTree.f k t14 t26).bind fun t29=>(if t29 = true then ((laws_toHeap.f k l1_0).bind fun t30=>((laws_eqHeap.f k t18 t30).bind fun t33=>(if t33 = true then ((laws_markTree.f k t14 1).bind fun bt34=>((laws_markHeap.f k t18 bt34.1).bind fun bt36=>(if bt36.1 < 0 then (laws_FnExactContextChain.j0 k a2 t11 t22 true l0_0 l1_0) else ((laws_eqIntS.f k t22 t11).bind fun t38=>(laws_FnExactContextChain.j0 k a2 t11 t22 (!t38) l0_0 l1_0))))) else (some false)))) else (some false)))) else (some false)) = some r:=H
   have A26:=a0_ A260
   clear A260
   by_cases c27 : t25 = true
   ·subst c27
    have H1 : ((laws_toTree.f k l0_0).bind fun t26=>((laws_eqTree.f k t14 t26).bind fun t29=>(if t29 = true then ((laws_toHeap.f k l1_0).bind fun t30=>((laws_eqHeap.f k t18 t30).bind fun t33=>(if t33 = true then ((laws_markTree.f k t14 1).bind fun bt34=>((laws_markHeap.f k t18 bt34.1).bind fun bt36=>(if bt36.1 < 0 then (laws_FnExactContextChain.j0 k a2 t11 t22 true l0_0 l1_0) else ((laws_eqIntS.f k t22 t11).bind fun t38=>(laws_FnExactContextChain.j0 k a2 t11 t22 (!t38) l0_0 l1_0))))) else (some false)))) else (some false)))) = some r:=by rw [if_pos rfl] at H;exact H
    clear H
    have H:=H1
    clear H1
    replace H:=Option.bind_eq_some_iff.mp H
    obtain ⟨t26,A280,H⟩:=H
    replace H : ((laws_eqTree.f k t14 t26).bind fun t29=>(if t29 = true then ((laws_toHeap.f k l1_0).bind fun t30=>((laws_eqHeap.f k t18 t30).bind fun t33=>(if t33 = true then ((laws_markTree.f k t14 1).bind fun bt34=>((laws_markHeap.f k t18 bt34.1).bind fun bt36=>(if bt36.1 < 0 then (laws_FnExactContextChain.j0 k a2 t11 t22 true l0_0 l1_0) else ((laws_eqIntS.f k t22 t11).bind fun t38=>(laws_FnExactContextChain.j0 k a2 t11 t22 (!t38) l0_0 l1_0))))) else (some false)))) else (some false))) = some r:=H
    have A28:=a0_ A280
    clear A280
    replace H:=Option.bind_eq_some_iff.mp H
    obtain ⟨t29,A290,H⟩:=H
    replace H : (if t29 = true then ((laws_toHeap.f k l1_0).bind fun t30=>((laws_eqHeap.f k t18 t30).bind fun t33=>(if t33 = true then ((laws_markTree.f k t14 1).bind fun bt34=>((laws_markHeap.f k t18 bt34.1).bind fun bt36=>(if bt36.1 < 0 then (laws_FnExactContextChain.j0 k a2 t11 t22 true l0_0 l1_0) else ((laws_eqIntS.f k t22 t11).bind fun t38=>(laws_FnExactContextChain.j0 k a2 t11 t22 (!t38) l0_0 l1_0))))) else (some false)))) else (some false)) = some r:=H
    have A29:=a0_ A290
    clear A290
    by_cases c30 : t29 = true
    ·subst c30
     have H1 : ((laws_toHeap.f k l1_0).bind fun t30=>((laws_eqHeap.f k t18 t30).bind fun t33=>(if t33 = true then ((laws_markTree.f k t14 1).bind fun bt34=>((laws_markHeap.f k t18 bt34.1).bind fun bt36=>(if bt36.1 < 0 then (laws_FnExactContextChain.j0 k a2 t11 t22 true l0_0 l1_0) else ((laws_eqIntS.f k t22 t11).bind fun t38=>(laws_FnExactContextChain.j0 k a2 t11 t22 (!t38) l0_0 l1_0))))) else (some false)))) = some r:=by rw [if_pos rfl] at H;exact H
     clear H
     have H:=H1
     clear H1
     replace H:=Option.bind_eq_some_iff.mp H
     obtain ⟨t30,A310,H⟩:=H
     replace H : ((laws_eqHeap.f k t18 t30).bind fun t33=>(if t33 = true then ((laws_markTree.f k t14 1).bind fun bt34=>((laws_markHeap.f k t18 bt34.1).bind fun bt36=>(if bt36.1 < 0 then (laws_FnExactContextChain.j0 k a2 t11 t22 true l0_0 l1_0) else ((laws_eqIntS.f k t22 t11).bind fun t38=>(laws_FnExactContextChain.j0 k a2 t11 t22 (!t38) l0_0 l1_0))))) else (some false))) = some r:=H
     have A31:=a0_ A310
     clear A310
     replace H:=Option.bind_eq_some_iff.mp H
     obtain ⟨t33,A320,H⟩:=H
     replace H : (if t33 = true then ((laws_markTree.f k t14 1).bind fun bt34=>((laws_markHeap.f k t18 bt34.1).bind fun bt36=>(if bt36.1 < 0 then (laws_FnExactContextChain.j0 k a2 t11 t22 true l0_0 l1_0) else ((laws_eqIntS.f k t22 t11).bind fun t38=>(laws_FnExactContextChain.j0 k a2 t11 t22 (!t38) l0_0 l1_0))))) else (some false)) = some r:=H
     have A32:=a0_ A320
     clear A320
     by_cases c33 : t33 = true
     ·subst c33
      have H1 : ((laws_markTree.f k t14 1).bind fun bt34=>((laws_markHeap.f k t18 bt34.1).bind fun bt36=>(if bt36.1 < 0 then (laws_FnExactContextChain.j0 k a2 t11 t22 true l0_0 l1_0) else ((laws_eqIntS.f k t22 t11).bind fun t38=>(laws_FnExactContextChain.j0 k a2 t11 t22 (!t38) l0_0 l1_0))))) = some r:=by rw [if_pos rfl] at H;exact H
      clear H
      have H:=H1
      clear H1
      replace H:=Option.bind_eq_some_iff.mp H
      obtain ⟨⟨t34,t35⟩,A340,H⟩:=H
      replace H : ((laws_markHeap.f k t18 t34).bind fun bt36=>(if bt36.1 < 0 then (laws_FnExactContextChain.j0 k a2 t11 t22 true l0_0 l1_0) else ((laws_eqIntS.f k t22 t11).bind fun t38=>(laws_FnExactContextChain.j0 k a2 t11 t22 (!t38) l0_0 l1_0)))) = some r:=H
      have A34:=a0_ A340
      clear A340
      replace H:=Option.bind_eq_some_iff.mp H
      obtain ⟨⟨t36,t37⟩,A350,H⟩:=H
      replace H : (if t36 < 0 then (laws_FnExactContextChain.j0 k a2 t11 t22 true l0_0 l1_0) else ((laws_eqIntS.f k t22 t11).bind fun t38=>(laws_FnExactContextChain.j0 k a2 t11 t22 (!t38) l0_0 l1_0))) = some r:=H
      have A35:=a0_ A350
      clear A350
      have HC36:=a0_ H
      clear H
      go_enter Try.func7,Try.ntmps7
      try go_wp2_with (first | ((with_reducible refine gate_dst (N:=3) rfl ?_);refine box_event ?hg (N:=3) ?hd (cs:=#[.slice A0_0 l0_0.length c0_0]) (t:=24) ?hr ?_;(case hd=>rfl);(case hg=>rfl);(case hr=>first | (go_simp;done) | (go_simp;rfl));intro gb1 hg w37 hbox hb;have BK1:=a0_ (hbox);have GW1:=a0_ ((by rw [hg];exact (below_size hb_) : w.heap.size ≤ gb1));have GE1:=a0_ ((by rw [hg];exact (below_size hb_) : w.heap.size ≤ gb1));replace HB:=a0_ (below_step hb_ hb);clear hb hbox hg) | ((with_reducible refine gate_dst (N:=4) rfl ?_);refine box_event ?hg (N:=4) ?hd (cs:=#[.slice A1_0 l1_0.length c1_0]) (t:=27) ?hr ?_;(case hd=>rfl);(case hg=>rfl);(case hr=>first | (go_simp;done) | (go_simp;rfl));intro gb2 hg w38 hbox hb;have n0_:=kb_ BK1 hb;have n1_:=a0_ (below_step hb_ hb);have n2_:=a0_ (hbox);have n3_:=a0_ ((by rw [hg];exact (below_size hb_) : w.heap.size ≤ gb2));have n4_:=a0_ ((by rw [hg];exact (below_size hb_) : w.heap.size ≤ gb2));have n5_:=a0_ ((by rw [hg];exact Nat.ne_of_lt (blk_lt (bb_ BK1.1)) : gb1 ≠ gb2));have n6_:=a0_ ((by rw [hg];exact Nat.ne_of_gt (blk_lt (bb_ BK1.1)) : gb2 ≠ gb1));clear BK1 HB;have BK1:=n0_;have HB:=n1_;have BK2:=n2_;have GW2:=n3_;have GE2:=n4_;have NB1_2:=n5_;have NB2_1:=n6_;clear n0_ n1_ n2_ n3_ n4_ n5_ n6_;clear hb hbox hg;have hnb39:=NB1_2.1;have hnc39:=NB2_1.1;have hcz40_0 : w38.cell? ⟨gb1,0,none⟩ = some (.slice A0_0 l0_0.length c0_0):=(blk_cell BK1.1 0).trans rfl;have hfz40_0:=blk_frozen BK1.1 0) | ((with_reducible refine gate_callee (f:=14) rfl ?_);refine goesL_ (some 18) rfl rfl Try.func14 (by kernel_rfl) rfl #[.agg #[.slice A0_0 l0_0.length c0_0],.int .i64 1048576] rfl lm_ ?_;(with_reducible refine (laws_szTree.calls k _ _ l0_0 1048576 t3 _ ?side1 ?side2 A4.1).mono ?_);(case side1=>exact cc_ (Kd.C_below HR0_0.1 HB.1));(case side2=>exact HC0_0.1);rintro e w41 ⟨rfl,hb⟩;refine ⟨_,rfl,?_⟩;replace BK1:=kb_ BK1 hb;replace BK2:=kb_ BK2 hb;replace HB:=a0_ (below_step hb_ hb);(try clear hb);have hcz42_0 : w41.cell? ⟨gb2,0,none⟩ = some (.slice A1_0 l1_0.length c1_0):=(blk_cell BK2.1 0).trans rfl;have hfz42_0:=blk_frozen BK2.1 0) | ((with_reducible refine gate_callee (f:=15) rfl ?_);refine goesL_ (some 23) rfl rfl Try.func15 (by kernel_rfl) rfl #[.agg #[.slice A1_0 l1_0.length c1_0],.int .i64 t3] rfl lm_ ?_;(with_reducible refine (laws_szHeap.calls _ _ l1_0 t3 t4 _ ?side1 ?side2 A11.1).mono ?_);(case side1=>exact cc_ (Kd.C_below HR1_0.1 HB.1));(case side2=>exact HC1_0.1);rintro e w43 ⟨rfl,hb⟩;refine ⟨_,rfl,?_⟩;replace BK1:=kb_ BK1 hb;replace BK2:=kb_ BK2 hb;replace HB:=a0_ (below_step hb_ hb);(try clear hb);(try clear hb2);(try clear hk);(try clear hi)))
      have n0_:=a0_ (blk_drew BK1.1)
      have n1_:=a0_ (blk_drew BK2.1)
      have n2_:=a0_ (below_drew1 HB.1)
      clear BK1
      clear BK2
      clear HB
      have BK1:=n0_
      have BK2:=n1_
      have HB:=n2_
      clear n0_ n1_ n2_
      refine start_ (n:=7) (S:=fun w'=>w'.cell? ⟨gb1,0,none⟩ = some (.slice A0_0 l0_0.length c0_0) ∧ w'.cell? ⟨gb2,0,none⟩ = some (.slice A1_0 l1_0.length c1_0)) (ds:=[]) #[false,false,false,false,false,false,false] (by kernel_rfl) rfl rfl ⟨(blk_cell BK1.1 0).trans rfl,(blk_cell BK2.1 0).trans rfl⟩ (fun hHeld=>?_)
      generalize w43.drew = w44 at BK1 BK2 HB hHeld ⊢
      refine pure_ (i:=4) (N:=some 30) (v:=?_) (a':=?_) #[false,false,false,false,true,false,false] rfl rfl (by kernel_rfl) (fun _ _ _ h=>h) (Or.inl ⟨by rfl,?_⟩) ?_ ?_
      rotate_left
      ·intro w'
       go_simp
       with_reducible rfl
      rotate_left
      ·simp only [Act.put,s1_,s2_,s3_,i64_w,i32_w]
       rfl
      refine take_ (i:=0) (N:=some 26) (v:=?_) (a':=?_) #[true,false,false,false,true,false,false] rfl rfl (by kernel_rfl) (fun _ _ _ h=>h) (Or.inl ⟨by rfl,?_⟩) hHeld ?_ ?_
      rotate_left
      ·rintro w' ⟨s0,s1⟩
       go_simp
       with_reducible rfl
      rotate_left
      ·simp only [Act.put,s1_,s2_,s3_,i64_w,i32_w]
       rfl
      refine take_ (i:=2) (N:=some 28) (v:=?_) (a':=?_) #[true,false,true,false,true,false,false] rfl rfl (by kernel_rfl) (fun _ _ _ h=>h) (Or.inl ⟨by rfl,?_⟩) hHeld ?_ ?_
      rotate_left
      ·rintro w' ⟨s0,s1⟩
       go_simp
       with_reducible rfl
      rotate_left
      ·simp only [Act.put,s1_,s2_,s3_,i64_w,i32_w]
       rfl
      refine one_ (i:=1) (N:=some 27) #[true,true,true,false,true,false,false] rfl rfl (by kernel_rfl) (by decide) (fun K hK=>?_)
      refine goes_ Try.func17 (by kernel_rfl) rfl #[.agg #[.slice A0_0 l0_0.length c0_0]] (by rfl) rfl rfl lm_ ?_
      with_reducible refine (laws_toTree.calls k _ _ l0_0 t5 _ ?side1 ?side2 A20.1).mono ?_
      (case side1=>exact cc_ (Kd.C_below HR0_0.1 HB.1))
      (case side2=>exact HC0_0.1)
      rintro e w45 ⟨v6,rfl,ho0,hb⟩
      refine ⟨_,rfl,?_⟩
      have n0_:=a0_ (Kd.R_lower ho0 (below_size hb_))
      have n1_:=kb_ BK1 hb
      have n2_:=kb_ BK2 hb
      have n3_:=a0_ (below_step hb_ hb)
      clear BK1
      clear BK2
      clear HB
      have HO7:=n0_
      have BK1:=n1_
      have BK2:=n2_
      have HB:=n3_
      clear n0_ n1_ n2_ n3_
      (try clear hb)
      (try clear hb2)
      (try clear hk)
      (try clear hi)
      (try clear ho0)
      refine hK.out _ _ ⟨(blk_cell BK1.1 0).trans rfl,(blk_cell BK2.1 0).trans rfl⟩ (fun hHeld=>?_)
      clear hK K
      refine norm_ (a':=?_) ?_ ?_
      rotate_left
      ·show Act.put _ (some 27) _ = _
       simp only [Act.put,s1_,s2_,s3_,i64_w,i32_w]
       rfl
      refine one_ (i:=3) (N:=some 29) #[true,true,true,true,true,false,false] rfl rfl (by kernel_rfl) (by decide) (fun K hK=>?_)
      refine goes_ Try.func18 (by kernel_rfl) rfl #[.agg #[.slice A1_0 l1_0.length c1_0]] (by rfl) rfl rfl lm_ ?_
      with_reducible refine (laws_toHeap.calls k _ _ l1_0 t8 _ ?side1 ?side2 A21.1).mono ?_
      (case side1=>exact cc_ (Kd.C_below HR1_0.1 HB.1))
      (case side2=>exact HC1_0.1)
      rintro e w46 ⟨v9,rfl,ho0,hb⟩
      refine ⟨_,rfl,?_⟩
      have n0_:=rb_ HO7 hb
      have n1_:=a0_ (Kd.R_lower ho0 (below_size hb_))
      have n2_:=kb_ BK1 hb
      have n3_:=kb_ BK2 hb
      have n4_:=a0_ (below_step hb_ hb)
      clear HO7
      clear BK1
      clear BK2
      clear HB
      have HO7:=n0_
      have HO10:=n1_
      have BK1:=n2_
      have BK2:=n3_
      have HB:=n4_
      clear n0_ n1_ n2_ n3_ n4_
      (try clear hb)
      (try clear hb2)
      (try clear hk)
      (try clear hi)
      (try clear ho0)
      obtain ⟨Ao47,co47,eo47⟩:=Kd.R_slice HO7.1
      (first | subst eo47 | (injection eo47 with f1_ f2_ f3_;have f4_:=f1_.symm;have f5_:=f3_.symm;clear f1_ f2_ f3_;subst f4_;subst f5_))
      obtain ⟨Ao48,co48,eo48⟩:=Kd.R_slice HO10.1
      (first | subst eo48 | (injection eo48 with f1_ f2_ f3_;have f4_:=f1_.symm;have f5_:=f3_.symm;clear f1_ f2_ f3_;subst f4_;subst f5_))
      refine hK.out _ _ ⟨(blk_cell BK1.1 0).trans rfl,(blk_cell BK2.1 0).trans rfl⟩ (fun hHeld=>?_)
      clear hK K
      refine norm_ (a':=?_) ?_ ?_
      rotate_left
      ·show Act.put _ (some 29) _ = _
       simp only [Act.put,s1_,s2_,s3_,i64_w,i32_w]
       rfl
      refine one_ (i:=5) (N:=some 31) #[true,true,true,true,true,true,false] rfl rfl (by kernel_rfl) (by decide) (fun K hK=>?_)
      refine goes_ Try.func33 (by kernel_rfl) rfl #[.agg #[.slice Ao47 t5.length co47],.agg #[.slice Ao48 t8.length co48],.int .i64 a2] (by rfl) rfl rfl lm_ ?_
      with_reducible refine (spec_ContextChain.calls k _ _ t5 _ _ t8 a2 t11 _ ?side1 ?side2 ?side3 ?side4 A22.1).mono ?_
      (case side1=>exact cc_ (Kd.R_reads' HO7.1).2.2)
      (case side2=>exact (Kd.R_reads' HO7.1).2.1)
      (case side3=>exact cc_ (Kd.R_reads' HO10.1).2.2)
      (case side4=>exact (Kd.R_reads' HO10.1).2.1)
      rintro e w49 ⟨v12,rfl,ho0,hb⟩
      refine ⟨_,rfl,?_⟩
      have n0_:=rb_ HO7 hb
      have n1_:=rb_ HO10 hb
      have n2_:=a0_ (Kd.R_lower ho0 (below_size hb_))
      have n3_:=kb_ BK1 hb
      have n4_:=kb_ BK2 hb
      have n5_:=a0_ (below_step hb_ hb)
      clear HO7
      clear HO10
      clear BK1
      clear BK2
      clear HB
      have HO7:=n0_
      have HO10:=n1_
      have HO13:=n2_
      have BK1:=n3_
      have BK2:=n4_
      have HB:=n5_
      clear n0_ n1_ n2_ n3_ n4_ n5_
      (try clear hb)
      (try clear hb2)
      (try clear hk)
      (try clear hi)
      (try clear ho0)
      refine hK.out _ _ ⟨(blk_cell BK1.1 0).trans rfl,(blk_cell BK2.1 0).trans rfl⟩ (fun hHeld=>?_)
      clear hK K
      refine norm_ (a':=?_) ?_ ?_
      rotate_left
      ·show Act.put _ (some 31) _ = _
       simp only [Act.put,s1_,s2_,s3_,i64_w,i32_w]
       rfl
      refine pure_ (i:=6) (N:=some 8) (v:=?_) (a':=?_) #[true,true,true,true,true,true,true] rfl rfl (by kernel_rfl) (fun _ _ _ h=>h) (Or.inl ⟨by rfl,?_⟩) ?_ ?_
      rotate_left
      ·intro w'
       go_simp
       with_reducible rfl
      rotate_left
      ·simp only [Act.put,s1_,s2_,s3_,i64_w,i32_w]
       rfl
      refine done_ (by kernel_rfl) ?_
      have hcz50_0 : w49.cell? ⟨gb1,0,none⟩ = some (.slice A0_0 l0_0.length c0_0):=(blk_cell BK1.1 0).trans rfl
      have hfz50_0:=blk_frozen BK1.1 0
      try go_wp2_with (first | ((with_reducible refine gate_callee (f:=17) rfl ?_);refine goesL_ (some 33) rfl rfl Try.func17 (by kernel_rfl) rfl #[.agg #[.slice A0_0 l0_0.length c0_0]] rfl lm_ ?_;(with_reducible refine (laws_toTree.calls k _ _ l0_0 t14 _ ?side1 ?side2 A23.1).mono ?_);(case side1=>exact cc_ (Kd.C_below HR0_0.1 HB.1));(case side2=>exact HC0_0.1);rintro e w51 ⟨v15,rfl,ho0,hb⟩;refine ⟨_,rfl,?_⟩;have n0_:=a0_ (Kd.R_elder' (rr_ HO7.1) (Kd.R_base ho0) hb);have n1_:=rb_ HO10 hb;have n2_:=rb_ HO13 hb;have n3_:=a0_ (Kd.R_lower (Kd.R_new' ho0 (Kd.R_lt (rr_ HO7.1))) (below_size hb_));have n4_:=kb_ BK1 hb;have n5_:=kb_ BK2 hb;have n6_:=a0_ (below_step hb_ hb);clear HO7 HO10;clear HO13 BK1;clear BK2 HB;have HO7:=n0_;have HO10:=n1_;have HO13:=n2_;have HO16:=n3_;have BK1:=n4_;have BK2:=n5_;have HB:=n6_;clear n0_ n1_ n2_ n3_ n4_ n5_ n6_;(try clear hb);(try clear ho0)) | ((with_reducible refine gate_dst (N:=9) rfl ?_);refine box_event ?hg (N:=9) ?hd (cs:=#[.slice none 0 0]) (t:=33) ?hr ?_;(case hd=>rfl);(case hg=>rfl);(case hr=>first | (go_simp;done) | (go_simp;rfl));intro gb17 hg w52 hbox hb;have n0_:=rb_ HO7 hb;have n1_:=rb_ HO10 hb;have n2_:=rb_ HO13 hb;have n3_:=rb_ HO16 hb;have n4_:=kb_ BK1 hb;have n5_:=kb_ BK2 hb;have n6_:=a0_ (below_step hb_ hb);have n7_:=a0_ (hbox);have n8_:=a0_ ((by rw [hg];exact (below_size hb_) : w.heap.size ≤ gb17));have n9_:=a0_ ((by rw [hg];exact (below_size hb_) : w.heap.size ≤ gb17));have n10_:=a0_ ((by rw [hg];exact Nat.ne_of_lt (blk_lt (bb_ BK1.1)) : gb1 ≠ gb17));have n11_:=a0_ ((by rw [hg];exact Nat.ne_of_gt (blk_lt (bb_ BK1.1)) : gb17 ≠ gb1));have n12_:=a0_ ((by rw [hg];exact Nat.ne_of_lt (blk_lt (bb_ BK2.1)) : gb2 ≠ gb17));have n13_:=a0_ ((by rw [hg];exact Nat.ne_of_gt (blk_lt (bb_ BK2.1)) : gb17 ≠ gb2));clear HO7 HO10;clear HO13 HO16;clear BK1 BK2 HB;have HO7:=n0_;have HO10:=n1_;have HO13:=n2_;have HO16:=n3_;have BK1:=n4_;have BK2:=n5_;have HB:=n6_;have BK17:=n7_;have GW17:=n8_;have GE17:=n9_;have NB1_17:=n10_;have NB17_1:=n11_;have NB2_17:=n12_;have NB17_2:=n13_;clear n0_ n1_ n2_ n3_ n4_ n5_ n6_ n7_ n8_ n9_ n10_ n11_ n12_ n13_;clear hb hbox hg;obtain ⟨Ao53,co53,eo53⟩:=Kd.R_slice HO16.1;subst eo53;have hnb54:=NB17_1.1;have hnc54:=NB1_17.1;have hnb55:=NB17_2.1;have hnc55:=NB2_17.1;have hcz56_0 : w52.cell? ⟨gb17,0,none⟩ = some (.slice none 0 0):=(blk_cell BK17.1 0).trans rfl;have hfz56_0:=blk_frozen BK17.1 0;have hcz57_0 : w52.cell? ⟨gb2,0,none⟩ = some (.slice A1_0 l1_0.length c1_0):=(blk_cell BK2.1 0).trans rfl;have hfz57_0:=blk_frozen BK2.1 0) | ((with_reducible refine gate_callee (f:=18) rfl ?_);refine goesL_ (some 35) rfl rfl Try.func18 (by kernel_rfl) rfl #[.agg #[.slice A1_0 l1_0.length c1_0]] rfl lm_ ?_;(with_reducible refine (laws_toHeap.calls k _ _ l1_0 t18 _ ?side1 ?side2 A24.1).mono ?_);(case side1=>exact Kd.C_below HR1_0.1 hb_);(case side2=>exact HC1_0.1);rintro e w58 ⟨v19,rfl,ho0,hb⟩;refine ⟨_,rfl,?_⟩;have n0_:=a0_ (Kd.R_below (by (with_reducible repeat (first | apply Kd.R_alloc | apply Kd.R_drewN | apply Kd.R_drew));exact (Kd.R_mono (Kd.R_far (p:=⟨gb17,0,none⟩) (Kd.R_types HO7.1 BK17.1 (by decide)) (fun _ hk=>hk.2) (.slice Ao53 t14.length co53)) (fun _ h_=>h_.1))) hb);have n1_:=a0_ (Kd.R_elder' (by (with_reducible repeat (first | apply Kd.R_alloc | apply Kd.R_drewN | apply Kd.R_drew));exact (Kd.R_mono (Kd.R_far (p:=⟨gb17,0,none⟩) (Kd.R_types HO10.1 BK17.1 (by decide)) (fun _ hk=>hk.2) (.slice Ao53 t14.length co53)) (fun _ h_=>h_.1))) (Kd.R_base ho0) hb);have n2_:=a0_ (Kd.R_below (by (with_reducible repeat (first | apply Kd.R_alloc | apply Kd.R_drewN | apply Kd.R_drew));exact (Kd.R_mono (Kd.R_far (p:=⟨gb17,0,none⟩) (Kd.R_types HO13.1 BK17.1 (by decide)) (fun _ hk=>hk.2) (.slice Ao53 t14.length co53)) (fun _ h_=>h_.1))) hb);have n3_:=a0_ (Kd.R_below (by (with_reducible repeat (first | apply Kd.R_alloc | apply Kd.R_drewN | apply Kd.R_drew));exact (Kd.R_mono (Kd.R_far (p:=⟨gb17,0,none⟩) (Kd.R_types HO16.1 BK17.1 (by decide)) (fun _ hk=>hk.2) (.slice Ao53 t14.length co53)) (fun _ h_=>h_.1))) hb);have n4_:=a0_ (Kd.R_lower (Kd.R_new' ho0 (Kd.R_lt (by (with_reducible repeat (first | apply Kd.R_alloc | apply Kd.R_drewN | apply Kd.R_drew));exact (Kd.R_mono (Kd.R_far (p:=⟨gb17,0,none⟩) (Kd.R_types HO10.1 BK17.1 (by decide)) (fun _ hk=>hk.2) (.slice Ao53 t14.length co53)) (fun _ h_=>h_.1))))) (below_size hb_));have n5_:=kf_ BK1 NB1_17 hb;have n6_:=kf_ BK2 NB2_17 hb;have n7_:=a0_ (blk_below (g:=gb17) (o:=.cells #[.slice Ao53 t14.length co53] 33 (0,0)) (by (with_reducible repeat (first | refine blk_drewN ?_ _ | refine blk_drew ?_ | refine blk_alloc ?_ _));refine blk_put (cs:=#[.slice none 0 0]) ?_ 0 _ rfl;(with_reducible repeat (first | refine blk_drewN ?_ _ | refine blk_drew ?_ | refine blk_alloc ?_ _));exact BK17.1) hb);have n8_:=a0_ (below_step hb_ hb);clear HO7 HO10;clear HO13 HO16;clear BK1 BK2;clear BK17 HB;have HO7:=n0_;have HO10:=n1_;have HO13:=n2_;have HO16:=n3_;have HO20:=n4_;have BK1:=n5_;have BK2:=n6_;have BK17:=n7_;have HB:=n8_;clear n0_ n1_ n2_ n3_ n4_ n5_ n6_ n7_ n8_;(try clear hb);(try clear ho0)) | ((with_reducible refine gate_dst (N:=10) rfl ?_);refine box_event ?hg (N:=10) ?hd (cs:=#[.slice none 0 0]) (t:=37) ?hr ?_;(case hd=>rfl);(case hg=>rfl);(case hr=>first | (go_simp;done) | (go_simp;rfl));intro gb21 hg w59 hbox hb;have n0_:=rb_ HO7 hb;have n1_:=rb_ HO10 hb;have n2_:=rb_ HO13 hb;have n3_:=rb_ HO16 hb;have n4_:=rb_ HO20 hb;have n5_:=kb_ BK1 hb;have n6_:=kb_ BK2 hb;have n7_:=kb_ BK17 hb;have n8_:=a0_ (below_step hb_ hb);have n9_:=a0_ (hbox);have n10_:=a0_ ((by rw [hg];exact (below_size hb_) : w.heap.size ≤ gb21));have n11_:=a0_ ((by rw [hg];exact (below_size hb_) : w.heap.size ≤ gb21));have n12_:=a0_ ((by rw [hg];exact Nat.ne_of_lt (blk_lt (bb_ BK1.1)) : gb1 ≠ gb21));have n13_:=a0_ ((by rw [hg];exact Nat.ne_of_gt (blk_lt (bb_ BK1.1)) : gb21 ≠ gb1));have n14_:=a0_ ((by rw [hg];exact Nat.ne_of_lt (blk_lt (bb_ BK2.1)) : gb2 ≠ gb21));have n15_:=a0_ ((by rw [hg];exact Nat.ne_of_gt (blk_lt (bb_ BK2.1)) : gb21 ≠ gb2));have n16_:=a0_ ((by rw [hg];exact Nat.ne_of_lt (blk_lt (bb_ BK17.1)) : gb17 ≠ gb21));have n17_:=a0_ ((by rw [hg];exact Nat.ne_of_gt (blk_lt (bb_ BK17.1)) : gb21 ≠ gb17));clear HO7 HO10;clear HO13 HO16;clear HO20 BK1;clear BK2 BK17 HB;have HO7:=n0_;have HO10:=n1_;have HO13:=n2_;have HO16:=n3_;have HO20:=n4_;have BK1:=n5_;have BK2:=n6_;have BK17:=n7_;have HB:=n8_;have BK21:=n9_;have GW21:=n10_;have GE21:=n11_;have NB1_21:=n12_;have NB21_1:=n13_;have NB2_21:=n14_;have NB21_2:=n15_;have NB17_21:=n16_;have NB21_17:=n17_;clear n0_ n1_ n2_ n3_ n4_ n5_ n6_ n7_ n8_ n9_ n10_ n11_ n12_ n13_ n14_ n15_ n16_ n17_;clear hb hbox hg;obtain ⟨Ao60,co60,eo60⟩:=Kd.R_slice HO20.1;subst eo60;have hnb61:=NB21_1.1;have hnc61:=NB1_21.1;have hnb62:=NB21_2.1;have hnc62:=NB2_21.1;have hnb63:=NB21_17.1;have hnc63:=NB17_21.1;have hcz64_0 : w59.cell? ⟨gb21,0,none⟩ = some (.slice none 0 0):=(blk_cell BK21.1 0).trans rfl;have hfz64_0:=blk_frozen BK21.1 0;have hcz65_0 : w59.cell? ⟨gb17,0,none⟩ = some (.slice Ao53 t14.length co53):=(blk_cell BK17.1 0).trans rfl;have hfz65_0:=blk_frozen BK17.1 0) | ((with_reducible refine gate_callee (f:=34) rfl ?_);refine goesL_ (some 39) rfl rfl Try.func34 (by kernel_rfl) rfl #[.agg #[.slice Ao53 t14.length co53],.agg #[.slice Ao60 t18.length co60],.int .i64 a2] rfl lm_ ?_;(with_reducible refine (impl_ContextChain.calls _ _ t14 _ _ t18 a2 t22 _ ?side1 ?side2 ?side3 ?side4 A25.1).mono ?_);(case side1=>refine (Kd.R_reads' (e:=106) (base:=w.heap.size) (ok:=fun k_=>(True ∧ some k_ ≠ (.slice Ao47 t5.length co47 : Value).ownBlock)) (n:=t14.length) (c:=co53) ?_).2.2;exact (by (with_reducible repeat (first | apply Kd.R_alloc | apply Kd.R_drewN | apply Kd.R_drew));exact (Kd.R_mono (Kd.R_far (p:=⟨gb21,0,none⟩) (Kd.R_types HO16.1 BK21.1 (by decide)) (fun _ hk=>hk.2) (.slice Ao60 t18.length co60)) (fun _ h_=>h_.1))));(case side2=>exact (Kd.R_reads' HO16.1).2.1);(case side3=>refine (Kd.R_reads' (e:=79) (base:=w.heap.size) (ok:=fun k_=>(True ∧ some k_ ≠ (.slice Ao48 t8.length co48 : Value).ownBlock)) (n:=t18.length) (c:=co60) ?_).2.2;exact (by (with_reducible repeat (first | apply Kd.R_alloc | apply Kd.R_drewN | apply Kd.R_drew));exact (Kd.R_mono (Kd.R_far (p:=⟨gb21,0,none⟩) (Kd.R_types HO20.1 BK21.1 (by decide)) (fun _ hk=>hk.2) (.slice Ao60 t18.length co60)) (fun _ h_=>h_.1))));(case side4=>exact (Kd.R_reads' HO20.1).2.1);rintro e w66 ⟨v23,rfl,ho0,hb⟩;refine ⟨_,rfl,?_⟩;have n0_:=a0_ (Kd.R_below (by (with_reducible repeat (first | apply Kd.R_alloc | apply Kd.R_drewN | apply Kd.R_drew));exact (Kd.R_mono (Kd.R_far (p:=⟨gb21,0,none⟩) (Kd.R_types HO7.1 BK21.1 (by decide)) (fun _ hk=>hk.2) (.slice Ao60 t18.length co60)) (fun _ h_=>h_.1))) hb);have n1_:=a0_ (Kd.R_below (by (with_reducible repeat (first | apply Kd.R_alloc | apply Kd.R_drewN | apply Kd.R_drew));exact (Kd.R_mono (Kd.R_far (p:=⟨gb21,0,none⟩) (Kd.R_types HO10.1 BK21.1 (by decide)) (fun _ hk=>hk.2) (.slice Ao60 t18.length co60)) (fun _ h_=>h_.1))) hb);have n2_:=a0_ (Kd.R_elder' (by (with_reducible repeat (first | apply Kd.R_alloc | apply Kd.R_drewN | apply Kd.R_drew));exact (Kd.R_mono (Kd.R_far (p:=⟨gb21,0,none⟩) (Kd.R_types HO13.1 BK21.1 (by decide)) (fun _ hk=>hk.2) (.slice Ao60 t18.length co60)) (fun _ h_=>h_.1))) (Kd.R_base ho0) hb);have n3_:=a0_ (Kd.R_below (by (with_reducible repeat (first | apply Kd.R_alloc | apply Kd.R_drewN | apply Kd.R_drew));exact (Kd.R_mono (Kd.R_far (p:=⟨gb21,0,none⟩) (Kd.R_types HO16.1 BK21.1 (by decide)) (fun _ hk=>hk.2) (.slice Ao60 t18.length co60)) (fun _ h_=>h_.1))) hb);have n4_:=a0_ (Kd.R_below (by (with_reducible repeat (first | apply Kd.R_alloc | apply Kd.R_drewN | apply Kd.R_drew));exact (Kd.R_mono (Kd.R_far (p:=⟨gb21,0,none⟩) (Kd.R_types HO20.1 BK21.1 (by decide)) (fun _ hk=>hk.2) (.slice Ao60 t18.length co60)) (fun _ h_=>h_.1))) hb);have n5_:=a0_ (Kd.R_lower (Kd.R_new' ho0 (Kd.R_lt (by (with_reducible repeat (first | apply Kd.R_alloc | apply Kd.R_drewN | apply Kd.R_drew));exact (Kd.R_mono (Kd.R_far (p:=⟨gb21,0,none⟩) (Kd.R_types HO13.1 BK21.1 (by decide)) (fun _ hk=>hk.2) (.slice Ao60 t18.length co60)) (fun _ h_=>h_.1))))) (below_size hb_));have n6_:=kf_ BK1 NB1_21 hb;have n7_:=kf_ BK2 NB2_21 hb;have n8_:=kf_ BK17 NB17_21 hb;have n9_:=a0_ (blk_below (g:=gb21) (o:=.cells #[.slice Ao60 t18.length co60] 37 (0,0)) (by (with_reducible repeat (first | refine blk_drewN ?_ _ | refine blk_drew ?_ | refine blk_alloc ?_ _));refine blk_put (cs:=#[.slice none 0 0]) ?_ 0 _ rfl;(with_reducible repeat (first | refine blk_drewN ?_ _ | refine blk_drew ?_ | refine blk_alloc ?_ _));exact BK21.1) hb);have n10_:=a0_ (below_step hb_ hb);clear HO7 HO10;clear HO13 HO16;clear HO20 BK1;clear BK2 BK17;clear BK21 HB;have HO7:=n0_;have HO10:=n1_;have HO13:=n2_;have HO16:=n3_;have HO20:=n4_;have HO24:=n5_;have BK1:=n6_;have BK2:=n7_;have BK17:=n8_;have BK21:=n9_;have HB:=n10_;clear n0_ n1_ n2_ n3_ n4_ n5_ n6_ n7_ n8_ n9_ n10_;(try clear hb);(try clear ho0);obtain ⟨Ao67,co67,eo67⟩:=Kd.R_slice HO24.1;subst eo67;obtain ⟨Ao68,co68,eo68⟩:=Kd.R_slice HO13.1;subst eo68) | ((with_reducible refine gate_callee (f:=28) rfl ?_);refine goesL_ (some 42) rfl rfl Try.func28 (by kernel_rfl) rfl #[.slice Ao67 t22.length co67,.slice Ao68 t11.length co68] rfl lm_ ?_;(with_reducible refine (laws_eqIntS.calls k _ _ t22 _ _ t11 true _ ?side1 ?side2 ?side3 ?side4 A26.1).mono ?_);(case side1=>exact cc_ (Kd.R_reads' HO24.1).2.2);(case side2=>exact (Kd.R_reads' HO24.1).2.1);(case side3=>exact cc_ (Kd.R_reads' HO13.1).2.2);(case side4=>exact (Kd.R_reads' HO13.1).2.1);rintro e w' ⟨rfl,⟨nd,rfl⟩⟩;refine ⟨_,rfl,?_⟩))
      (try (rw [drewN_self w66];generalize hq_ : World.drewN w66 _ = w66;have n0_ : Aside0 (Kd.R k79 79 w66 w.heap.size (fun k_=>(True ∧ some k_ ≠ (.slice Ao60 t18.length co60 : Value).ownBlock)) (.slice Ao48 t8.length co48) t8):=⟨by rw [← hq_];exact (rr_ HO10.1)⟩;have n1_ : Aside0 (Kd.R (Kd.int .i64) 3 w66 w.heap.size (fun k_=>(True ∧ some k_ ≠ (.slice Ao67 t22.length co67 : Value).ownBlock)) (.slice Ao68 t11.length co68) t11):=⟨by rw [← hq_];exact (rr_ HO13.1)⟩;have n2_ : Aside0 (Kd.R k106 106 w66 w.heap.size (fun k_=>(True ∧ some k_ ≠ (.slice Ao47 t5.length co47 : Value).ownBlock)) (.slice Ao53 t14.length co53) t14):=⟨by rw [← hq_];exact (rr_ HO16.1)⟩;have n3_ : Aside0 (Kd.R k79 79 w66 w.heap.size (fun k_=>(True ∧ some k_ ≠ (.slice Ao48 t8.length co48 : Value).ownBlock)) (.slice Ao60 t18.length co60) t18):=⟨by rw [← hq_];exact (rr_ HO20.1)⟩;have n4_ : Aside0 (Kd.R (Kd.int .i64) 3 w66 w.heap.size (fun k_=>(True ∧ some k_ ≠ (.slice Ao68 t11.length co68 : Value).ownBlock)) (.slice Ao67 t22.length co67) t22):=⟨by rw [← hq_];exact (rr_ HO24.1)⟩;have n5_ : Aside0 (Kd.R k106 106 w66 w.heap.size (fun k_=>(True ∧ some k_ ≠ (.slice Ao53 t14.length co53 : Value).ownBlock)) (.slice Ao47 t5.length co47) t5):=⟨by rw [← hq_];exact (rr_ HO7.1)⟩;have n6_ : Aside0 (w66.heap[gb1]? = some (.cells #[.slice A0_0 l0_0.length c0_0] 24 (0,0))):=⟨by rw [← hq_];exact (bb_ BK1.1)⟩;have n7_ : Aside0 (w66.heap[gb17]? = some (.cells #[.slice Ao53 t14.length co53] 33 (0,0))):=⟨by rw [← hq_];exact (bb_ BK17.1)⟩;have n8_ : Aside0 (w66.heap[gb2]? = some (.cells #[.slice A1_0 l1_0.length c1_0] 27 (0,0))):=⟨by rw [← hq_];exact (bb_ BK2.1)⟩;have n9_ : Aside0 (w66.heap[gb21]? = some (.cells #[.slice Ao60 t18.length co60] 37 (0,0))):=⟨by rw [← hq_];exact (bb_ BK21.1)⟩;have n10_ : Aside0 (Below w.heap.size w w66):=⟨by rw [← hq_];exact hb_⟩;clear HO10 HO13 HO16 HO20 HO24 HO7 BK1 BK17 BK2 BK21 HB hq_;have HO10:=n0_;have HO13:=n1_;have HO16:=n2_;have HO20:=n3_;have HO24:=n4_;have HO7:=n5_;have BK1:=n6_;have BK17:=n7_;have BK2:=n8_;have BK21:=n9_;have HB:=n10_;clear n0_ n1_ n2_ n3_ n4_ n5_ n6_ n7_ n8_ n9_ n10_))
      have n0_:=a0_ (Kd.R_drew HO7.1)
      have n1_:=a0_ (Kd.R_drew HO10.1)
      have n2_:=a0_ (Kd.R_drew HO13.1)
      have n3_:=a0_ (Kd.R_drew HO16.1)
      have n4_:=a0_ (Kd.R_drew HO20.1)
      have n5_:=a0_ (Kd.R_drew HO24.1)
      have n6_:=a0_ (blk_drew BK1.1)
      have n7_:=a0_ (blk_drew BK2.1)
      have n8_:=a0_ (blk_drew BK17.1)
      have n9_:=a0_ (blk_drew BK21.1)
      have n10_:=a0_ (below_drew1 HB.1)
      clear HO7
      clear HO10
      clear HO13
      clear HO16
      clear HO20
      clear HO24
      clear BK1
      clear BK2
      clear BK17
      clear BK21
      clear HB
      have HO7:=n0_
      have HO10:=n1_
      have HO13:=n2_
      have HO16:=n3_
      have HO20:=n4_
      have HO24:=n5_
      have BK1:=n6_
      have BK2:=n7_
      have BK17:=n8_
      have BK21:=n9_
      have HB:=n10_
      clear n0_ n1_ n2_ n3_ n4_ n5_ n6_ n7_ n8_ n9_ n10_
      refine start_ (n:=5) (S:=fun w'=>w'.cell? ⟨gb17,0,none⟩ = some (.slice Ao53 t14.length co53) ∧ w'.cell? ⟨gb1,0,none⟩ = some (.slice A0_0 l0_0.length c0_0)) (ds:=[]) #[false,false,false,false,false] (by kernel_rfl) rfl rfl ⟨(blk_cell BK17.1 0).trans rfl,(blk_cell BK1.1 0).trans rfl⟩ (fun hHeld=>?_)
      generalize w66.drew = w69 at HO7 HO10 HO13 HO16 HO20 HO24 BK1 BK2 BK17 BK21 HB hHeld ⊢
      refine take_ (i:=0) (N:=some 44) (v:=?_) (a':=?_) #[true,false,false,false,false] rfl rfl (by kernel_rfl) (fun _ _ _ h=>h) (Or.inl ⟨by rfl,?_⟩) hHeld ?_ ?_
      rotate_left
      ·rintro w' ⟨s0,s1⟩
       go_simp
       with_reducible rfl
      rotate_left
      ·simp only [Act.put,s1_,s2_,s3_,i64_w,i32_w]
       rfl
      refine take_ (i:=1) (N:=some 45) (v:=?_) (a':=?_) #[true,true,false,false,false] rfl rfl (by kernel_rfl) (fun _ _ _ h=>h) (Or.inl ⟨by rfl,?_⟩) hHeld ?_ ?_
      rotate_left
      ·rintro w' ⟨s0,s1⟩
       go_simp
       with_reducible rfl
      rotate_left
      ·simp only [Act.put,s1_,s2_,s3_,i64_w,i32_w]
       rfl
      refine one_ (i:=2) (N:=some 46) #[true,true,true,false,false] rfl rfl (by kernel_rfl) (by decide) (fun K hK=>?_)
      refine goes_ Try.func17 (by kernel_rfl) rfl #[.agg #[.slice A0_0 l0_0.length c0_0]] (by rfl) rfl rfl lm_ ?_
      with_reducible refine (laws_toTree.calls k _ _ l0_0 t26 _ ?side1 ?side2 A28.1).mono ?_
      (case side1=>exact cc_ (Kd.C_below HR0_0.1 HB.1))
      (case side2=>exact HC0_0.1)
      rintro e w70 ⟨v27,rfl,ho0,hb⟩
      refine ⟨_,rfl,?_⟩
      have n0_:=a0_ (Kd.R_elder' (rr_ HO7.1) (Kd.R_base ho0) hb)
      have n1_:=rb_ HO10 hb
      have n2_:=rb_ HO13 hb
      have n3_:=a0_ (Kd.R_elder' (rr_ HO16.1) (Kd.R_base ho0) hb)
      have n4_:=rb_ HO20 hb
      have n5_:=rb_ HO24 hb
      have n6_:=a0_ (Kd.R_lower (Kd.R_new' (Kd.R_new' ho0 (Kd.R_lt (rr_ HO7.1))) (Kd.R_lt (rr_ HO16.1))) (below_size hb_))
      have n7_:=kb_ BK1 hb
      have n8_:=kb_ BK2 hb
      have n9_:=kb_ BK17 hb
      have n10_:=kb_ BK21 hb
      have n11_:=a0_ (below_step hb_ hb)
      clear HO7
      clear HO10
      clear HO13
      clear HO16
      clear HO20
      clear HO24
      clear BK1
      clear BK2
      clear BK17
      clear BK21
      clear HB
      have HO7:=n0_
      have HO10:=n1_
      have HO13:=n2_
      have HO16:=n3_
      have HO20:=n4_
      have HO24:=n5_
      have HO28:=n6_
      have BK1:=n7_
      have BK2:=n8_
      have BK17:=n9_
      have BK21:=n10_
      have HB:=n11_
      clear n0_ n1_ n2_ n3_ n4_ n5_ n6_ n7_ n8_ n9_ n10_ n11_
      (try clear hb)
      (try clear hb2)
      (try clear hk)
      (try clear hi)
      (try clear ho0)
      obtain ⟨Ao71,co71,eo71⟩:=Kd.R_slice HO28.1
      (first | subst eo71 | (injection eo71 with f1_ f2_ f3_;have f4_:=f1_.symm;have f5_:=f3_.symm;clear f1_ f2_ f3_;subst f4_;subst f5_))
      refine hK.out _ _ ⟨(blk_cell BK17.1 0).trans rfl,(blk_cell BK1.1 0).trans rfl⟩ (fun hHeld=>?_)
      clear hK K
      refine norm_ (a':=?_) ?_ ?_
      rotate_left
      ·show Act.put _ (some 46) _ = _
       simp only [Act.put,s1_,s2_,s3_,i64_w,i32_w]
       rfl
      refine one_ (i:=3) (N:=some 47) #[true,true,true,true,false] rfl rfl (by kernel_rfl) (by decide) (fun K hK=>?_)
      refine goes_ Try.func20 (by kernel_rfl) rfl #[.agg #[.slice Ao53 t14.length co53],.agg #[.slice Ao71 t26.length co71]] (by rfl) rfl rfl lm_ ?_
      with_reducible refine (laws_eqTree.calls k _ _ t14 _ _ t26 true _ ?side1 ?side2 ?side3 ?side4 A29.1).mono ?_
      (case side1=>exact cc_ (Kd.R_reads' HO16.1).2.2)
      (case side2=>exact (Kd.R_reads' HO16.1).2.1)
      (case side3=>exact cc_ (Kd.R_reads' HO28.1).2.2)
      (case side4=>exact (Kd.R_reads' HO28.1).2.1)
      rintro e w72 ⟨rfl,hb⟩
      refine ⟨_,rfl,?_⟩
      have n0_:=rb_ HO7 hb
      have n1_:=rb_ HO10 hb
      have n2_:=rb_ HO13 hb
      have n3_:=rb_ HO16 hb
      have n4_:=rb_ HO20 hb
      have n5_:=rb_ HO24 hb
      have n6_:=rb_ HO28 hb
      have n7_:=kb_ BK1 hb
      have n8_:=kb_ BK2 hb
      have n9_:=kb_ BK17 hb
      have n10_:=kb_ BK21 hb
      have n11_:=a0_ (below_step hb_ hb)
      clear HO7
      clear HO10
      clear HO13
      clear HO16
      clear HO20
      clear HO24
      clear HO28
      clear BK1
      clear BK2
      clear BK17
      clear BK21
      clear HB
      have HO7:=n0_
      have HO10:=n1_
      have HO13:=n2_
      have HO16:=n3_
      have HO20:=n4_
      have HO24:=n5_
      have HO28:=n6_
      have BK1:=n7_
      have BK2:=n8_
      have BK17:=n9_
      have BK21:=n10_
      have HB:=n11_
      clear n0_ n1_ n2_ n3_ n4_ n5_ n6_ n7_ n8_ n9_ n10_ n11_
      (try clear hb)
      (try clear hb2)
      (try clear hk)
      (try clear hi)
      refine hK.out _ _ ⟨(blk_cell BK17.1 0).trans rfl,(blk_cell BK1.1 0).trans rfl⟩ (fun hHeld=>?_)
      clear hK K
      refine norm_ (a':=?_) ?_ ?_
      rotate_left
      ·show Act.put _ (some 47) _ = _
       simp only [Act.put,s1_,s2_,s3_,i64_w,i32_w]
       rfl
      refine pure_ (i:=4) (N:=some 48) (v:=?_) (a':=?_) #[true,true,true,true,true] rfl rfl (by kernel_rfl) (fun _ _ _ h=>h) (Or.inl ⟨by rfl,?_⟩) ?_ ?_
      rotate_left
      ·intro w'
       go_simp
       with_reducible rfl
      rotate_left
      ·simp only [Act.put,s1_,s2_,s3_,i64_w,i32_w]
       rfl
      refine done_ (by kernel_rfl) ?_
      try go_wp2
      have n0_:=a0_ (Kd.R_drew HO7.1)
      have n1_:=a0_ (Kd.R_drew HO10.1)
      have n2_:=a0_ (Kd.R_drew HO13.1)
      have n3_:=a0_ (Kd.R_drew HO16.1)
      have n4_:=a0_ (Kd.R_drew HO20.1)
      have n5_:=a0_ (Kd.R_drew HO24.1)
      have n6_:=a0_ (Kd.R_drew HO28.1)
      have n7_:=a0_ (blk_drew BK1.1)
      have n8_:=a0_ (blk_drew BK2.1)
      have n9_:=a0_ (blk_drew BK17.1)
      have n10_:=a0_ (blk_drew BK21.1)
      have n11_:=a0_ (below_drew1 HB.1)
      clear HO7
      clear HO10
      clear HO13
      clear HO16
      clear HO20
      clear HO24
      clear HO28
      clear BK1
      clear BK2
      clear BK17
      clear BK21
      clear HB
      have HO7:=n0_
      have HO10:=n1_
      have HO13:=n2_
      have HO16:=n3_
      have HO20:=n4_
      have HO24:=n5_
      have HO28:=n6_
      have BK1:=n7_
      have BK2:=n8_
      have BK17:=n9_
      have BK21:=n10_
      have HB:=n11_
      clear n0_ n1_ n2_ n3_ n4_ n5_ n6_ n7_ n8_ n9_ n10_ n11_
      refine start_ (n:=5) (S:=fun w'=>w'.cell? ⟨gb21,0,none⟩ = some (.slice Ao60 t18.length co60) ∧ w'.cell? ⟨gb2,0,none⟩ = some (.slice A1_0 l1_0.length c1_0)) (ds:=[]) #[false,false,false,false,false] (by kernel_rfl) rfl rfl ⟨(blk_cell BK21.1 0).trans rfl,(blk_cell BK2.1 0).trans rfl⟩ (fun hHeld=>?_)
      generalize w72.drew = w73 at HO7 HO10 HO13 HO16 HO20 HO24 HO28 BK1 BK2 BK17 BK21 HB hHeld ⊢
      refine take_ (i:=0) (N:=some 49) (v:=?_) (a':=?_) #[true,false,false,false,false] rfl rfl (by kernel_rfl) (fun _ _ _ h=>h) (Or.inl ⟨by rfl,?_⟩) hHeld ?_ ?_
      rotate_left
      ·rintro w' ⟨s0,s1⟩
       go_simp
       with_reducible rfl
      rotate_left
      ·simp only [Act.put,s1_,s2_,s3_,i64_w,i32_w]
       rfl
      refine take_ (i:=1) (N:=some 50) (v:=?_) (a':=?_) #[true,true,false,false,false] rfl rfl (by kernel_rfl) (fun _ _ _ h=>h) (Or.inl ⟨by rfl,?_⟩) hHeld ?_ ?_
      rotate_left
      ·rintro w' ⟨s0,s1⟩
       go_simp
       with_reducible rfl
      rotate_left
      ·simp only [Act.put,s1_,s2_,s3_,i64_w,i32_w]
       rfl
      refine one_ (i:=2) (N:=some 51) #[true,true,true,false,false] rfl rfl (by kernel_rfl) (by decide) (fun K hK=>?_)
      refine goes_ Try.func18 (by kernel_rfl) rfl #[.agg #[.slice A1_0 l1_0.length c1_0]] (by rfl) rfl rfl lm_ ?_
      with_reducible refine (laws_toHeap.calls k _ _ l1_0 t30 _ ?side1 ?side2 A31.1).mono ?_
      (case side1=>exact cc_ (Kd.C_below HR1_0.1 HB.1))
      (case side2=>exact HC1_0.1)
      rintro e w74 ⟨v31,rfl,ho0,hb⟩
      refine ⟨_,rfl,?_⟩
      have n0_:=rb_ HO7 hb
      have n1_:=a0_ (Kd.R_elder' (rr_ HO10.1) (Kd.R_base ho0) hb)
      have n2_:=rb_ HO13 hb
      have n3_:=rb_ HO16 hb
      have n4_:=a0_ (Kd.R_elder' (rr_ HO20.1) (Kd.R_base ho0) hb)
      have n5_:=rb_ HO24 hb
      have n6_:=rb_ HO28 hb
      have n7_:=a0_ (Kd.R_lower (Kd.R_new' (Kd.R_new' ho0 (Kd.R_lt (rr_ HO10.1))) (Kd.R_lt (rr_ HO20.1))) (below_size hb_))
      have n8_:=kb_ BK1 hb
      have n9_:=kb_ BK2 hb
      have n10_:=kb_ BK17 hb
      have n11_:=kb_ BK21 hb
      have n12_:=a0_ (below_step hb_ hb)
      clear HO7
      clear HO10
      clear HO13
      clear HO16
      clear HO20
      clear HO24
      clear HO28
      clear BK1
      clear BK2
      clear BK17
      clear BK21
      clear HB
      have HO7:=n0_
      have HO10:=n1_
      have HO13:=n2_
      have HO16:=n3_
      have HO20:=n4_
      have HO24:=n5_
      have HO28:=n6_
      have HO32:=n7_
      have BK1:=n8_
      have BK2:=n9_
      have BK17:=n10_
      have BK21:=n11_
      have HB:=n12_
      clear n0_ n1_ n2_ n3_ n4_ n5_ n6_ n7_ n8_ n9_ n10_ n11_ n12_
      (try clear hb)
      (try clear hb2)
      (try clear hk)
      (try clear hi)
      (try clear ho0)
      obtain ⟨Ao75,co75,eo75⟩:=Kd.R_slice HO32.1
      (first | subst eo75 | (injection eo75 with f1_ f2_ f3_;have f4_:=f1_.symm;have f5_:=f3_.symm;clear f1_ f2_ f3_;subst f4_;subst f5_))
      refine hK.out _ _ ⟨(blk_cell BK21.1 0).trans rfl,(blk_cell BK2.1 0).trans rfl⟩ (fun hHeld=>?_)
      clear hK K
      refine norm_ (a':=?_) ?_ ?_
      rotate_left
      ·show Act.put _ (some 51) _ = _
       simp only [Act.put,s1_,s2_,s3_,i64_w,i32_w]
       rfl
      refine one_ (i:=3) (N:=some 52) #[true,true,true,true,false] rfl rfl (by kernel_rfl) (by decide) (fun K hK=>?_)
      refine goes_ Try.func21 (by kernel_rfl) rfl #[.agg #[.slice Ao60 t18.length co60],.agg #[.slice Ao75 t30.length co75]] (by rfl) rfl rfl lm_ ?_
      with_reducible refine (laws_eqHeap.calls k _ _ t18 _ _ t30 true _ ?side1 ?side2 ?side3 ?side4 A32.1).mono ?_
      (case side1=>exact cc_ (Kd.R_reads' HO20.1).2.2)
      (case side2=>exact (Kd.R_reads' HO20.1).2.1)
      (case side3=>exact cc_ (Kd.R_reads' HO32.1).2.2)
      (case side4=>exact (Kd.R_reads' HO32.1).2.1)
      rintro e w76 ⟨rfl,hb⟩
      refine ⟨_,rfl,?_⟩
      have n0_:=rb_ HO7 hb
      have n1_:=rb_ HO10 hb
      have n2_:=rb_ HO13 hb
      have n3_:=rb_ HO16 hb
      have n4_:=rb_ HO20 hb
      have n5_:=rb_ HO24 hb
      have n6_:=rb_ HO28 hb
      have n7_:=rb_ HO32 hb
      have n8_:=kb_ BK1 hb
      have n9_:=kb_ BK2 hb
      have n10_:=kb_ BK17 hb
      have n11_:=kb_ BK21 hb
      have n12_:=a0_ (below_step hb_ hb)
      clear HO7
      clear HO10
      clear HO13
      clear HO16
      clear HO20
      clear HO24
      clear HO28
      clear HO32
      clear BK1
      clear BK2
      clear BK17
      clear BK21
      clear HB
      have HO7:=n0_
      have HO10:=n1_
      have HO13:=n2_
      have HO16:=n3_
      have HO20:=n4_
      have HO24:=n5_
      have HO28:=n6_
      have HO32:=n7_
      have BK1:=n8_
      have BK2:=n9_
      have BK17:=n10_
      have BK21:=n11_
      have HB:=n12_
      clear n0_ n1_ n2_ n3_ n4_ n5_ n6_ n7_ n8_ n9_ n10_ n11_ n12_
      (try clear hb)
      (try clear hb2)
      (try clear hk)
      (try clear hi)
      refine hK.out _ _ ⟨(blk_cell BK21.1 0).trans rfl,(blk_cell BK2.1 0).trans rfl⟩ (fun hHeld=>?_)
      clear hK K
      refine norm_ (a':=?_) ?_ ?_
      rotate_left
      ·show Act.put _ (some 52) _ = _
       simp only [Act.put,s1_,s2_,s3_,i64_w,i32_w]
       rfl
      refine pure_ (i:=4) (N:=some 53) (v:=?_) (a':=?_) #[true,true,true,true,true] rfl rfl (by kernel_rfl) (fun _ _ _ h=>h) (Or.inl ⟨by rfl,?_⟩) ?_ ?_
      rotate_left
      ·intro w'
       go_simp
       with_reducible rfl
      rotate_left
      ·simp only [Act.put,s1_,s2_,s3_,i64_w,i32_w]
       rfl
      refine done_ (by kernel_rfl) ?_
      have hcz77_0 : w76.cell? ⟨gb17,0,none⟩ = some (.slice Ao53 t14.length co53):=(blk_cell BK17.1 0).trans rfl
      have hfz77_0:=blk_frozen BK17.1 0
      go_upto_region 21 with (first | ((with_reducible refine gate_callee (f:=29) rfl ?_);refine goesL_ (some 56) rfl rfl Try.func29 (by kernel_rfl) rfl #[.agg #[.slice Ao53 t14.length co53],.int .i64 1] rfl lm_ ?_;(with_reducible refine (laws_markTree.calls k (fun k_=>some k_ = (.slice Ao53 t14.length co53 : Value).ownBlock) (.slice Ao53 t14.length co53) t14 1 t34 t35 w _ ?side1 ?side2 A34.1).mono ?_);(case side1=>exact hb_);(case side2=>exact Kd.R_tight rfl HO16.1);rintro e w78 ⟨rfl,hy0,hb,hkp⟩;refine ⟨_,rfl,?_⟩;have n0_:=a0_ (blk_kept (bb_ BK1.1) hkp (fun hs_=>(fun e_=>(Kd.R_ne HO16.1 BK1.1 (by decide)) e_) hs_));have n1_:=a0_ (blk_kept (bb_ BK2.1) hkp (fun hs_=>(fun e_=>(Kd.R_ne HO16.1 BK2.1 (by decide)) e_) hs_));have n2_:=a0_ (Kd.R_mono (ok':=fun k_=>some k_ ≠ (.slice Ao53 t14.length co53 : Value).ownBlock ∧ some k_ ≠ (.slice Ao71 t26.length co71 : Value).ownBlock) (Kd.R_keptB (HO7.1) hkp (fun k_ hk_ hs_=>(hk_.1.2) hs_)) (fun k_ hk_=>⟨hk_.1.1.2,hk_.1.2⟩));have n3_:=a0_ (Kd.R_mono (ok':=fun k_=>some k_ ≠ (.slice Ao60 t18.length co60 : Value).ownBlock ∧ some k_ ≠ (.slice Ao75 t30.length co75 : Value).ownBlock) (Kd.R_keptB ((Kd.R_apart' HO10.1 (Kd.R_typed HO16.1) (by decide))) hkp (fun k_ hk_ hs_=>(hk_.2) hs_)) (fun k_ hk_=>⟨hk_.1.1.1.2,hk_.1.1.2⟩));have n4_:=a0_ (Kd.R_mono (ok':=fun k_=>some k_ ≠ (.slice Ao67 t22.length co67 : Value).ownBlock) (Kd.R_keptB ((Kd.R_apart' HO13.1 (Kd.R_typed HO16.1) (by decide))) hkp (fun k_ hk_ hs_=>(hk_.2) hs_)) (fun k_ hk_=>hk_.1.1.2));have n5_:=a0_ (Kd.R_reok rfl hy0 (fun k_ e_=>HO16.1.1 k_ e_));have n6_:=a0_ (blk_kept (bb_ BK17.1) hkp (fun hs_=>(fun e_=>(Kd.R_ne HO16.1 BK17.1 (by decide)) e_) hs_));have n7_:=a0_ (Kd.R_mono (ok':=fun k_=>some k_ ≠ (.slice Ao48 t8.length co48 : Value).ownBlock ∧ some k_ ≠ (.slice Ao75 t30.length co75 : Value).ownBlock) (Kd.R_keptB ((Kd.R_apart' HO20.1 (Kd.R_typed HO16.1) (by decide))) hkp (fun k_ hk_ hs_=>(hk_.2) hs_)) (fun k_ hk_=>⟨hk_.1.1.1.2,hk_.1.1.2⟩));have n8_:=a0_ (blk_kept (bb_ BK21.1) hkp (fun hs_=>(fun e_=>(Kd.R_ne HO16.1 BK21.1 (by decide)) e_) hs_));have n9_:=a0_ (Kd.R_mono (ok':=fun k_=>some k_ ≠ (.slice Ao68 t11.length co68 : Value).ownBlock) (Kd.R_keptB ((Kd.R_apart' HO24.1 (Kd.R_typed HO16.1) (by decide))) hkp (fun k_ hk_ hs_=>(hk_.2) hs_)) (fun k_ hk_=>hk_.1.1.2));have n10_:=a0_ (Kd.R_mono (ok':=fun k_=>some k_ ≠ (.slice Ao47 t5.length co47 : Value).ownBlock ∧ some k_ ≠ (.slice Ao53 t14.length co53 : Value).ownBlock) (Kd.R_keptB (HO28.1) hkp (fun k_ hk_ hs_=>(hk_.2) hs_)) (fun k_ hk_=>⟨hk_.1.1.2,hk_.1.2⟩));have n11_:=a0_ (Kd.R_mono (ok':=fun k_=>some k_ ≠ (.slice Ao48 t8.length co48 : Value).ownBlock ∧ some k_ ≠ (.slice Ao60 t18.length co60 : Value).ownBlock) (Kd.R_keptB ((Kd.R_apart' HO32.1 (Kd.R_typed HO16.1) (by decide))) hkp (fun k_ hk_ hs_=>(hk_.2) hs_)) (fun k_ hk_=>⟨hk_.1.1.1.2,hk_.1.1.2⟩));have n12_:=a0_ (hb);clear BK1 BK2;clear HO7 HO10;clear HO13 HO16;clear BK17 HO20;clear BK21 HO24;clear HO28 HO32 HB;have BK1:=n0_;have BK2:=n1_;have HO7:=n2_;have HO10:=n3_;have HO13:=n4_;have HO16:=n5_;have BK17:=n6_;have HO20:=n7_;have BK21:=n8_;have HO24:=n9_;have HO28:=n10_;have HO32:=n11_;have HB:=n12_;clear n0_ n1_ n2_ n3_ n4_ n5_ n6_ n7_ n8_ n9_ n10_ n11_ n12_;(try clear hb);(try clear hkp);(try clear hy0);have hcz79_0 : w78.cell? ⟨gb21,0,none⟩ = some (.slice Ao60 t18.length co60):=(blk_cell BK21.1 0).trans rfl;have hfz79_0:=blk_frozen BK21.1 0) | ((with_reducible refine gate_callee (f:=30) rfl ?_);refine goesL_ (some 59) rfl rfl Try.func30 (by kernel_rfl) rfl #[.agg #[.slice Ao60 t18.length co60],.int .i64 t34] rfl lm_ ?_;(with_reducible refine (laws_markHeap.calls k (fun k_=>some k_ = (.slice Ao60 t18.length co60 : Value).ownBlock) (.slice Ao60 t18.length co60) t18 t34 t36 t37 w _ ?side1 ?side2 A35.1).mono ?_);(case side1=>exact hb_);(case side2=>exact Kd.R_tight rfl HO20.1);rintro e w80 ⟨rfl,hy0,hb,hkp⟩;refine ⟨_,rfl,?_⟩;have n0_:=a0_ (blk_kept (bb_ BK1.1) hkp (fun hs_=>(fun e_=>(Kd.R_ne HO20.1 BK1.1 (by decide)) e_) hs_));have n1_:=a0_ (blk_kept (bb_ BK2.1) hkp (fun hs_=>(fun e_=>(Kd.R_ne HO20.1 BK2.1 (by decide)) e_) hs_));have n2_:=a0_ (Kd.R_mono (ok':=fun k_=>some k_ ≠ (.slice Ao53 t14.length co53 : Value).ownBlock ∧ some k_ ≠ (.slice Ao71 t26.length co71 : Value).ownBlock) (Kd.R_keptB ((Kd.R_apart' HO7.1 (Kd.R_typed HO20.1) (by decide))) hkp (fun k_ hk_ hs_=>(hk_.2) hs_)) (fun k_ hk_=>⟨hk_.1.1.1,hk_.1.1.2⟩));have n3_:=a0_ (Kd.R_mono (ok':=fun k_=>some k_ ≠ (.slice Ao60 t18.length co60 : Value).ownBlock ∧ some k_ ≠ (.slice Ao75 t30.length co75 : Value).ownBlock) (Kd.R_keptB (HO10.1) hkp (fun k_ hk_ hs_=>(hk_.1) hs_)) (fun k_ hk_=>⟨hk_.1.1,hk_.1.2⟩));have n4_:=a0_ (Kd.R_mono (ok':=fun k_=>some k_ ≠ (.slice Ao67 t22.length co67 : Value).ownBlock) (Kd.R_keptB ((Kd.R_apart' HO13.1 (Kd.R_typed HO20.1) (by decide))) hkp (fun k_ hk_ hs_=>(hk_.2) hs_)) (fun k_ hk_=>hk_.1.1));have n5_:=a0_ (Kd.R_mono (ok':=fun k_=>some k_ ≠ (.slice Ao47 t5.length co47 : Value).ownBlock ∧ some k_ ≠ (.slice Ao71 t26.length co71 : Value).ownBlock) (Kd.R_keptB ((Kd.R_apart' HO16.1 (Kd.R_typed HO20.1) (by decide))) hkp (fun k_ hk_ hs_=>(hk_.2) hs_)) (fun k_ hk_=>⟨hk_.1.1.1.2,hk_.1.1.2⟩));have n6_:=a0_ (blk_kept (bb_ BK17.1) hkp (fun hs_=>(fun e_=>(Kd.R_ne HO20.1 BK17.1 (by decide)) e_) hs_));have n7_:=a0_ (Kd.R_reok rfl hy0 (fun k_ e_=>HO20.1.1 k_ e_));have n8_:=a0_ (blk_kept (bb_ BK21.1) hkp (fun hs_=>(fun e_=>(Kd.R_ne HO20.1 BK21.1 (by decide)) e_) hs_));have n9_:=a0_ (Kd.R_mono (ok':=fun k_=>some k_ ≠ (.slice Ao68 t11.length co68 : Value).ownBlock) (Kd.R_keptB ((Kd.R_apart' HO24.1 (Kd.R_typed HO20.1) (by decide))) hkp (fun k_ hk_ hs_=>(hk_.2) hs_)) (fun k_ hk_=>hk_.1.1));have n10_:=a0_ (Kd.R_mono (ok':=fun k_=>some k_ ≠ (.slice Ao47 t5.length co47 : Value).ownBlock ∧ some k_ ≠ (.slice Ao53 t14.length co53 : Value).ownBlock) (Kd.R_keptB ((Kd.R_apart' HO28.1 (Kd.R_typed HO20.1) (by decide))) hkp (fun k_ hk_ hs_=>(hk_.2) hs_)) (fun k_ hk_=>⟨hk_.1.1.1,hk_.1.1.2⟩));have n11_:=a0_ (Kd.R_mono (ok':=fun k_=>some k_ ≠ (.slice Ao48 t8.length co48 : Value).ownBlock ∧ some k_ ≠ (.slice Ao60 t18.length co60 : Value).ownBlock) (Kd.R_keptB (HO32.1) hkp (fun k_ hk_ hs_=>(hk_.2) hs_)) (fun k_ hk_=>⟨hk_.1.1,hk_.1.2⟩));have n12_:=a0_ (hb);clear BK1 BK2;clear HO7 HO10;clear HO13 HO16;clear BK17 HO20;clear BK21 HO24;clear HO28 HO32 HB;have BK1:=n0_;have BK2:=n1_;have HO7:=n2_;have HO10:=n3_;have HO13:=n4_;have HO16:=n5_;have BK17:=n6_;have HO20:=n7_;have BK21:=n8_;have HO24:=n9_;have HO28:=n10_;have HO32:=n11_;have HB:=n12_;clear n0_ n1_ n2_ n3_ n4_ n5_ n6_ n7_ n8_ n9_ n10_ n11_ n12_;(try clear hb);(try clear hkp);(try clear hy0)))
      (try simp only [Act.put,s1_,s2_,s3_])
      go_cut [67] (fun v67 wc=>∃ (kq : Nat) (x67_35 : Bool),v67 = .bool x67_35 ∧ Aside0 (laws_FnExactContextChain.j0 kq a2 t11 t22 x67_35 l0_0 l1_0 = some r) ∧ Aside0 (kq ≤ k) ∧ Aside0 (Kd.R (Kd.int .i64) 3 wc w.heap.size (fun k_=>some k_ ≠ ((.slice Ao67 t22.length co67) : Value).ownBlock) (.slice Ao68 t11.length co68) t11) ∧ Aside0 (Kd.R (Kd.int .i64) 3 wc w.heap.size (fun k_=>some k_ ≠ ((.slice Ao68 t11.length co68) : Value).ownBlock) (.slice Ao67 t22.length co67) t22) ∧ Aside0 (Kd.R k106 106 wc w.heap.size (fun _=>True) (.slice Ao53 t14.length co53) t35) ∧ Aside0 (Kd.R k79 79 wc w.heap.size (fun _=>True) (.slice Ao60 t18.length co60) t37) ∧ Aside0 (wc.heap[gb1]? = some (.cells #[(.slice A0_0 l0_0.length c0_0)] 24 (0,0))) ∧ Aside0 (wc.heap[gb2]? = some (.cells #[(.slice A1_0 l1_0.length c1_0)] 27 (0,0))) ∧ Aside0 (wc.heap[gb17]? = some (.cells #[(.slice Ao53 t14.length co53)] 33 (0,0))) ∧ Aside0 (wc.heap[gb21]? = some (.cells #[(.slice Ao60 t18.length co60)] 37 (0,0))) ∧ Aside0 (Below w.heap.size w wc))
      case first =>
       have H:=HC36.1
       clear HC36
       by_cases c81 : t36 < 0
       ·rw [if_pos c81] at H
        have c81b0 : decide (t36 < 0) = true:=decide_eq_true c81
        clear c81
        (first | rw [c81b0] | (simp only [i64_w,i32_w];rw [c81b0]) | skip)
        have H':=a0_ H
        clear H
        go_wp2
        go_meet
        case rel=>exact ⟨_,(true),(by first | rfl | (simp;done) | (simp [*];done)),H',⟨by first | omega | exact Nat.le_refl _⟩,⟨by (with_reducible repeat (first | apply Kd.R_alloc | apply Kd.R_drewN | apply Kd.R_drew));exact HO13.1⟩,⟨by (with_reducible repeat (first | apply Kd.R_alloc | apply Kd.R_drewN | apply Kd.R_drew));exact HO24.1⟩,⟨by (with_reducible repeat (first | apply Kd.R_alloc | apply Kd.R_drewN | apply Kd.R_drew));exact Kd.R_mono HO16.1 (fun _ hk=>trivial)⟩,⟨by (with_reducible repeat (first | apply Kd.R_alloc | apply Kd.R_drewN | apply Kd.R_drew));exact Kd.R_mono HO20.1 (fun _ hk=>trivial)⟩,⟨by (with_reducible repeat (first | refine blk_drewN ?_ _ | refine blk_drew ?_ | refine blk_alloc ?_ _));exact BK1.1⟩,⟨by (with_reducible repeat (first | refine blk_drewN ?_ _ | refine blk_drew ?_ | refine blk_alloc ?_ _));exact BK2.1⟩,⟨by (with_reducible repeat (first | refine blk_drewN ?_ _ | refine blk_drew ?_ | refine blk_alloc ?_ _));exact BK17.1⟩,⟨by (with_reducible repeat (first | refine blk_drewN ?_ _ | refine blk_drew ?_ | refine blk_alloc ?_ _));exact BK21.1⟩,⟨hb_⟩⟩
       ·rw [if_neg c81] at H
        have c81b0 : decide (t36 < 0) = false:=decide_eq_false c81
        clear c81
        (first | rw [c81b0] | (simp only [i64_w,i32_w];rw [c81b0]) | skip)
        replace H:=Option.bind_eq_some_iff.mp H
        obtain ⟨t38,A820,H⟩:=H
        replace H : (laws_FnExactContextChain.j0 k a2 t11 t22 (!t38) l0_0 l1_0) = some r:=H
        have A82:=a0_ A820
        clear A820
        have H':=a0_ H
        clear H
        go_wp2_with (first | (go_at_call 28;(with_reducible refine (laws_eqIntS.calls k _ _ t22 _ _ t11 t38 _ ?side1 ?side2 ?side3 ?side4 A82.1).mono ?_);(case side1=>exact cc_ (Kd.R_reads' HO24.1).2.2);(case side2=>exact (Kd.R_reads' HO24.1).2.1);(case side3=>exact cc_ (Kd.R_reads' HO13.1).2.2);(case side4=>exact (Kd.R_reads' HO13.1).2.1);rintro e w' ⟨rfl,⟨nd,rfl⟩⟩))
        go_meet
        case rel=>exact ⟨_,(!t38),(by first | rfl | (simp;done) | (simp [*];done)),H',⟨by first | omega | exact Nat.le_refl _⟩,⟨by (with_reducible repeat (first | apply Kd.R_alloc | apply Kd.R_drewN | apply Kd.R_drew));exact HO13.1⟩,⟨by (with_reducible repeat (first | apply Kd.R_alloc | apply Kd.R_drewN | apply Kd.R_drew));exact HO24.1⟩,⟨by (with_reducible repeat (first | apply Kd.R_alloc | apply Kd.R_drewN | apply Kd.R_drew));exact Kd.R_mono HO16.1 (fun _ hk=>trivial)⟩,⟨by (with_reducible repeat (first | apply Kd.R_alloc | apply Kd.R_drewN | apply Kd.R_drew));exact Kd.R_mono HO20.1 (fun _ hk=>trivial)⟩,⟨by (with_reducible repeat (first | refine blk_drewN ?_ _ | refine blk_drew ?_ | refine blk_alloc ?_ _));exact BK1.1⟩,⟨by (with_reducible repeat (first | refine blk_drewN ?_ _ | refine blk_drew ?_ | refine blk_alloc ?_ _));exact BK2.1⟩,⟨by (with_reducible repeat (first | refine blk_drewN ?_ _ | refine blk_drew ?_ | refine blk_alloc ?_ _));exact BK17.1⟩,⟨by (with_reducible repeat (first | refine blk_drewN ?_ _ | refine blk_drew ?_ | refine blk_alloc ?_ _));exact BK21.1⟩,⟨hb_⟩⟩
      case rest =>
       clear HC36
       try clear c1
       try clear c2
       try clear p2
       try clear c3
       try clear c5
       try clear c6
       try clear c7
       try clear c8
       try clear c14
       try clear c15
       try clear c17
       try clear c18
       try clear c20
       try clear c21
       try clear c28
       try clear c29
       try clear c30
       try clear c33
       try clear c34
       try clear c39
       try clear c54
       try clear c55
       try clear c61
       try clear c62
       try clear c63
       try clear c81
       try clear c81b0
       try clear hcz40_0
       try clear hcz42_0
       try clear hcz50_0
       try clear hcz56_0
       try clear hcz57_0
       try clear hcz64_0
       try clear hcz65_0
       try clear hcz77_0
       try clear hcz79_0
       try clear hfz40_0
       try clear hfz42_0
       try clear hfz50_0
       try clear hfz56_0
       try clear hfz57_0
       try clear hfz64_0
       try clear hfz65_0
       try clear hfz77_0
       try clear hfz79_0
       obtain ⟨kq,x67_35,rfl,HA,HJ35,HO_8,HO_11,Z18,Z22,BK1,BK2,BK17,BK21,HB⟩:=hcut
       have hl18000_35:=(Kd.R_reads' Z18.1).1
       rw [hl18000_35] at Z18
       (try simp only [hl18000_35])
       (try simp only [hl18000_35] at BK1)
       (try simp only [hl18000_35] at BK2)
       (try simp only [hl18000_35] at BK17)
       (try simp only [hl18000_35] at BK21)
       (try simp only [hl18000_35] at HO_8)
       (try simp only [hl18000_35] at HO_11)
       (try simp only [hl18000_35] at Z22)
       have hl22000_35:=(Kd.R_reads' Z22.1).1
       rw [hl22000_35] at Z22
       (try simp only [hl22000_35])
       (try simp only [hl22000_35] at BK1)
       (try simp only [hl22000_35] at BK2)
       (try simp only [hl22000_35] at BK17)
       (try simp only [hl22000_35] at BK21)
       (try simp only [hl22000_35] at HO_8)
       (try simp only [hl22000_35] at HO_11)
       (try simp only [hl22000_35] at Z18)
       cases kq with
       | zero=>exact absurd HA.out (by simp [laws_FnExactContextChain.j0])
       | succ kj35 =>
        have H:=HA.out
        clear HA
        simp only [laws_FnExactContextChain.j0] at H
        by_cases c83 : x67_35 = true
        ·subst c83
         have H1 : (some false) = some r:=by rw [if_pos rfl] at H;exact H
         clear H
         have H:=H1
         clear H1
         obtain rfl:=Option.some.inj H
         go_wp2
         go_ret
         exact ⟨by first | rfl | (simp [errW_none,errW_some] <;> rfl) | (simp [*,errW_none,errW_some] <;> rfl),hb_⟩
        ·replace c83:=Bool.eq_false_iff.mpr c83
         subst c83
         have H1 : ((laws_markIntS.f kj35 t22 1).bind fun bt39=>((laws_heldIntS.f kj35 bt39.2 1).bind fun t41=>(if t41 < 0 then (some false) else (if t41 = bt39.1 then ((laws_toTree.f kj35 l0_0).bind fun t42=>((laws_toHeap.f kj35 l1_0).bind fun t45=>((impl_ContextChain.f t42 t45 a2).bind fun t48=>((laws_eqIntS.f kj35 t48 t11).bind fun t51=>(if t51 = true then ((laws_heldIntS.f kj35 bt39.2 1).bind fun t52=>(if t52 < 0 then (some false) else (if t52 = bt39.1 then (some true) else (some false)))) else (some false)))))) else (some false))))) = some r:=by rw [if_neg (show ¬ (false = true) by decide)] at H;exact H
         clear H
         have H:=H1
         clear H1
         replace H:=Option.bind_eq_some_iff.mp H
         obtain ⟨⟨t39,t40⟩,A840,H⟩:=H
         replace H : ((laws_heldIntS.f kj35 t40 1).bind fun t41=>(if t41 < 0 then (some false) else (if t41 = t39 then ((laws_toTree.f kj35 l0_0).bind fun t42=>((laws_toHeap.f kj35 l1_0).bind fun t45=>((impl_ContextChain.f t42 t45 a2).bind fun t48=>((laws_eqIntS.f kj35 t48 t11).bind fun t51=>(if t51 = true then ((laws_heldIntS.f kj35 t40 1).bind fun t52=>(if t52 < 0 then (some false) else (if t52 = t39 then (some true) else (some false)))) else (some false)))))) else (some false)))) = some r:=H
         have A84:=a0_ A840
         clear A840
         replace H:=Option.bind_eq_some_iff.mp H
         obtain ⟨t41,A850,H⟩:=H
         replace H : (if t41 < 0 then (some false) else (if t41 = t39 then ((laws_toTree.f kj35 l0_0).bind fun t42=>((laws_toHeap.f kj35 l1_0).bind fun t45=>((impl_ContextChain.f t42 t45 a2).bind fun t48=>((laws_eqIntS.f kj35 t48 t11).bind fun t51=>(if t51 = true then ((laws_heldIntS.f kj35 t40 1).bind fun t52=>(if t52 < 0 then (some false) else (if t52 = t39 then (some true) else (some false)))) else (some false)))))) else (some false))) = some r:=H
         have A85:=a0_ A850
         clear A850
         by_cases c86 : t41 < 0
         ·rw [if_pos c86] at H
          have c86b0 : decide (t41 < 0) = true:=decide_eq_true c86
          clear c86
          obtain rfl:=Option.some.inj H
          go_wp2_with (first | ((with_reducible refine gate_callee (f:=31) rfl ?_);refine goesL_ (some 70) rfl rfl Try.func31 (by kernel_rfl) rfl #[.slice Ao67 t22.length co67,.int .i64 1] rfl lm_ ?_;(with_reducible refine (laws_markIntS.calls kj35 (fun k_=>some k_ = (.slice Ao67 t22.length co67 : Value).ownBlock) (.slice Ao67 t22.length co67) t22 1 t39 t40 w _ ?side1 ?side2 A84.1).mono ?_);(case side1=>exact hb_);(case side2=>exact Kd.R_tight rfl HO_11.1);rintro e w87 ⟨rfl,hy0,hb,hkp⟩;refine ⟨_,rfl,?_⟩;have n0_:=a0_ (Kd.R_mono (ok':=fun k_=>some k_ ≠ (.slice Ao67 t22.length co67 : Value).ownBlock) (Kd.R_keptB (HO_8.1) hkp (fun k_ hk_ hs_=>(hk_) hs_)) (fun k_ hk_=>hk_.1));have n1_:=a0_ (Kd.R_reok rfl hy0 (fun k_ e_=>HO_11.1.1 k_ e_));have n2_:=a0_ (Kd.R_mono (ok':=fun k_=>True) (Kd.R_keptB ((Kd.R_apart' Z18.1 (Kd.R_typed HO_11.1) (by decide))) hkp (fun k_ hk_ hs_=>(hk_.2) hs_)) (fun k_ hk_=>trivial));have n3_:=a0_ (Kd.R_mono (ok':=fun k_=>True) (Kd.R_keptB ((Kd.R_apart' Z22.1 (Kd.R_typed HO_11.1) (by decide))) hkp (fun k_ hk_ hs_=>(hk_.2) hs_)) (fun k_ hk_=>trivial));have n4_:=a0_ (blk_kept (bb_ BK1.1) hkp (fun hs_=>(fun e_=>(Kd.R_ne HO_11.1 BK1.1 (by decide)) e_) hs_));have n5_:=a0_ (blk_kept (bb_ BK2.1) hkp (fun hs_=>(fun e_=>(Kd.R_ne HO_11.1 BK2.1 (by decide)) e_) hs_));have n6_:=a0_ (blk_kept (bb_ BK17.1) hkp (fun hs_=>(fun e_=>(Kd.R_ne HO_11.1 BK17.1 (by decide)) e_) hs_));have n7_:=a0_ (blk_kept (bb_ BK21.1) hkp (fun hs_=>(fun e_=>(Kd.R_ne HO_11.1 BK21.1 (by decide)) e_) hs_));have n8_:=a0_ (hb);clear HO_8 HO_11;clear Z18 Z22;clear BK1 BK2;clear BK17 BK21 HB;have HO_8:=n0_;have HO_11:=n1_;have Z18:=n2_;have Z22:=n3_;have BK1:=n4_;have BK2:=n5_;have BK17:=n6_;have BK21:=n7_;have HB:=n8_;clear n0_ n1_ n2_ n3_ n4_ n5_ n6_ n7_ n8_;(try clear hb);(try clear hkp);(try clear hy0)) | ((with_reducible refine gate_callee (f:=32) rfl ?_);refine goesL_ (some 73) rfl rfl Try.func32 (by kernel_rfl) rfl #[.slice Ao67 t40.length co67,.int .i64 1] rfl (by (try simp only [List.map_toArray,List.map_cons,List.map_nil]);first | done | (rw [show t40.length = t22.length from (Kd.R_reads' HO_11.1).1.symm] <;> rfl) | rfl | (simp only [List.length_drop,List.length_take];rfl)) ?_;(with_reducible refine (laws_heldIntS.calls kj35 _ _ t40 1 t41 _ ?side1 ?side2 A85.1).mono ?_);(case side1=>exact cc_ (Kd.R_reads' HO_11.1).2.2);(case side2=>rw [show t40.length = t22.length from (Kd.R_reads' HO_11.1).1.symm];exact (Kd.R_reads' HO_11.1).2.1);rintro e w' ⟨rfl,⟨nd,rfl⟩⟩;refine ⟨_,rfl,?_⟩))
          go_ret
          exact ⟨by first | rfl | (simp [errW_none,errW_some] <;> rfl) | (simp [*,errW_none,errW_some] <;> rfl),hb_⟩
         ·rw [if_neg c86] at H
          have c86b0 : decide (t41 < 0) = false:=decide_eq_false c86
          clear c86
          by_cases c88 : t41 = t39
          ·rw [if_pos c88] at H
           have c88b0 : (t41 == t39) = true:=beq_iff_eq.mpr c88
           have c88b1 : (t41 != t39) = false:=bne_eq_false_iff_eq.mpr c88
           clear c88
           replace H:=Option.bind_eq_some_iff.mp H
           obtain ⟨t42,A890,H⟩:=H
           replace H : ((laws_toHeap.f kj35 l1_0).bind fun t45=>((impl_ContextChain.f t42 t45 a2).bind fun t48=>((laws_eqIntS.f kj35 t48 t11).bind fun t51=>(if t51 = true then ((laws_heldIntS.f kj35 t40 1).bind fun t52=>(if t52 < 0 then (some false) else (if t52 = t39 then (some true) else (some false)))) else (some false))))) = some r:=H
           have A89:=a0_ A890
           clear A890
           replace H:=Option.bind_eq_some_iff.mp H
           obtain ⟨t45,A900,H⟩:=H
           replace H : ((impl_ContextChain.f t42 t45 a2).bind fun t48=>((laws_eqIntS.f kj35 t48 t11).bind fun t51=>(if t51 = true then ((laws_heldIntS.f kj35 t40 1).bind fun t52=>(if t52 < 0 then (some false) else (if t52 = t39 then (some true) else (some false)))) else (some false)))) = some r:=H
           have A90:=a0_ A900
           clear A900
           replace H:=Option.bind_eq_some_iff.mp H
           obtain ⟨t48,A910,H⟩:=H
           replace H : ((laws_eqIntS.f kj35 t48 t11).bind fun t51=>(if t51 = true then ((laws_heldIntS.f kj35 t40 1).bind fun t52=>(if t52 < 0 then (some false) else (if t52 = t39 then (some true) else (some false)))) else (some false))) = some r:=H
           have A91:=a0_ A910
           clear A910
           replace H:=Option.bind_eq_some_iff.mp H
           obtain ⟨t51,A920,H⟩:=H
           replace H : (if t51 = true then ((laws_heldIntS.f kj35 t40 1).bind fun t52=>(if t52 < 0 then (some false) else (if t52 = t39 then (some true) else (some false)))) else (some false)) = some r:=H
           have A92:=a0_ A920
           clear A920
           by_cases c93 : t51 = true
           ·subst c93
            have H1 : ((laws_heldIntS.f kj35 t40 1).bind fun t52=>(if t52 < 0 then (some false) else (if t52 = t39 then (some true) else (some false)))) = some r:=by rw [if_pos rfl] at H;exact H
            clear H
            have H:=H1
            clear H1
            replace H:=Option.bind_eq_some_iff.mp H
            obtain ⟨t52,A940,H⟩:=H
            replace H : (if t52 < 0 then (some false) else (if t52 = t39 then (some true) else (some false))) = some r:=H
            have A94:=a0_ A940
            clear A940
            by_cases c95 : t52 < 0
            ·rw [if_pos c95] at H
             have c95b0 : decide (t52 < 0) = true:=decide_eq_true c95
             clear c95
             obtain rfl:=Option.some.inj H
             try go_wp2_with (first | ((with_reducible refine gate_callee (f:=31) rfl ?_);refine goesL_ (some 70) rfl rfl Try.func31 (by kernel_rfl) rfl #[.slice Ao67 t22.length co67,.int .i64 1] rfl lm_ ?_;(with_reducible refine (laws_markIntS.calls kj35 (fun k_=>some k_ = (.slice Ao67 t22.length co67 : Value).ownBlock) (.slice Ao67 t22.length co67) t22 1 t39 t40 w _ ?side1 ?side2 A84.1).mono ?_);(case side1=>exact hb_);(case side2=>exact Kd.R_tight rfl HO_11.1);rintro e w96 ⟨rfl,hy0,hb,hkp⟩;refine ⟨_,rfl,?_⟩;have n0_:=a0_ (Kd.R_mono (ok':=fun k_=>some k_ ≠ (.slice Ao67 t22.length co67 : Value).ownBlock) (Kd.R_keptB (HO_8.1) hkp (fun k_ hk_ hs_=>(hk_) hs_)) (fun k_ hk_=>hk_.1));have n1_:=a0_ (Kd.R_reok rfl hy0 (fun k_ e_=>HO_11.1.1 k_ e_));have n2_:=a0_ (Kd.R_mono (ok':=fun k_=>True) (Kd.R_keptB ((Kd.R_apart' Z18.1 (Kd.R_typed HO_11.1) (by decide))) hkp (fun k_ hk_ hs_=>(hk_.2) hs_)) (fun k_ hk_=>trivial));have n3_:=a0_ (Kd.R_mono (ok':=fun k_=>True) (Kd.R_keptB ((Kd.R_apart' Z22.1 (Kd.R_typed HO_11.1) (by decide))) hkp (fun k_ hk_ hs_=>(hk_.2) hs_)) (fun k_ hk_=>trivial));have n4_:=a0_ (blk_kept (bb_ BK1.1) hkp (fun hs_=>(fun e_=>(Kd.R_ne HO_11.1 BK1.1 (by decide)) e_) hs_));have n5_:=a0_ (blk_kept (bb_ BK2.1) hkp (fun hs_=>(fun e_=>(Kd.R_ne HO_11.1 BK2.1 (by decide)) e_) hs_));have n6_:=a0_ (blk_kept (bb_ BK17.1) hkp (fun hs_=>(fun e_=>(Kd.R_ne HO_11.1 BK17.1 (by decide)) e_) hs_));have n7_:=a0_ (blk_kept (bb_ BK21.1) hkp (fun hs_=>(fun e_=>(Kd.R_ne HO_11.1 BK21.1 (by decide)) e_) hs_));have n8_:=a0_ (hb);clear HO_8 HO_11;clear Z18 Z22;clear BK1 BK2;clear BK17 BK21 HB;have HO_8:=n0_;have HO_11:=n1_;have Z18:=n2_;have Z22:=n3_;have BK1:=n4_;have BK2:=n5_;have BK17:=n6_;have BK21:=n7_;have HB:=n8_;clear n0_ n1_ n2_ n3_ n4_ n5_ n6_ n7_ n8_;(try clear hb);(try clear hkp);(try clear hy0)) | ((with_reducible refine gate_callee (f:=32) rfl ?_);refine goesL_ (some 73) rfl rfl Try.func32 (by kernel_rfl) rfl #[.slice Ao67 t40.length co67,.int .i64 1] rfl (by (try simp only [List.map_toArray,List.map_cons,List.map_nil]);first | done | (rw [show t40.length = t22.length from (Kd.R_reads' HO_11.1).1.symm] <;> rfl) | rfl | (simp only [List.length_drop,List.length_take];rfl)) ?_;(with_reducible refine (laws_heldIntS.calls kj35 _ _ t40 1 t41 _ ?side1 ?side2 A85.1).mono ?_);(case side1=>exact cc_ (Kd.R_reads' HO_11.1).2.2);(case side2=>rw [show t40.length = t22.length from (Kd.R_reads' HO_11.1).1.symm];exact (Kd.R_reads' HO_11.1).2.1);rintro e w' ⟨rfl,⟨nd,rfl⟩⟩;refine ⟨_,rfl,?_⟩))
             (try (rw [drewN_self w96];generalize hq_ : World.drewN w96 _ = w96;have n0_ : Aside0 (Kd.R (Kd.int .i64) 3 w96 w.heap.size (fun k_=>some k_ ≠ (.slice Ao68 t11.length co68 : Value).ownBlock) (.slice Ao67 t22.length co67) t40):=⟨by rw [← hq_];exact (rr_ HO_11.1)⟩;have n1_ : Aside0 (Kd.R k106 106 w96 w.heap.size (fun k_=>True) (.slice Ao53 t35.length co53) t35):=⟨by rw [← hq_];exact (rr_ Z18.1)⟩;have n2_ : Aside0 (Kd.R k79 79 w96 w.heap.size (fun k_=>True) (.slice Ao60 t37.length co60) t37):=⟨by rw [← hq_];exact (rr_ Z22.1)⟩;have n3_ : Aside0 (Kd.R (Kd.int .i64) 3 w96 w.heap.size (fun k_=>some k_ ≠ (.slice Ao67 t22.length co67 : Value).ownBlock) (.slice Ao68 t11.length co68) t11):=⟨by rw [← hq_];exact (rr_ HO_8.1)⟩;have n4_ : Aside0 (w96.heap[gb1]? = some (.cells #[.slice A0_0 l0_0.length c0_0] 24 (0,0))):=⟨by rw [← hq_];exact (bb_ BK1.1)⟩;have n5_ : Aside0 (w96.heap[gb17]? = some (.cells #[.slice Ao53 t35.length co53] 33 (0,0))):=⟨by rw [← hq_];exact (bb_ BK17.1)⟩;have n6_ : Aside0 (w96.heap[gb2]? = some (.cells #[.slice A1_0 l1_0.length c1_0] 27 (0,0))):=⟨by rw [← hq_];exact (bb_ BK2.1)⟩;have n7_ : Aside0 (w96.heap[gb21]? = some (.cells #[.slice Ao60 t37.length co60] 37 (0,0))):=⟨by rw [← hq_];exact (bb_ BK21.1)⟩;have n8_ : Aside0 (Below w.heap.size w w96):=⟨by rw [← hq_];exact hb_⟩;clear HO_11 Z18 Z22 HO_8 BK1 BK17 BK2 BK21 HB hq_;have HO_11:=n0_;have Z18:=n1_;have Z22:=n2_;have HO_8:=n3_;have BK1:=n4_;have BK17:=n5_;have BK2:=n6_;have BK21:=n7_;have HB:=n8_;clear n0_ n1_ n2_ n3_ n4_ n5_ n6_ n7_ n8_))
             have n0_:=a0_ (Kd.R_drew HO_8.1)
             have n1_:=a0_ (Kd.R_drew HO_11.1)
             have n2_:=a0_ (Kd.R_drew Z18.1)
             have n3_:=a0_ (Kd.R_drew Z22.1)
             have n4_:=a0_ (blk_drew BK1.1)
             have n5_:=a0_ (blk_drew BK2.1)
             have n6_:=a0_ (blk_drew BK17.1)
             have n7_:=a0_ (blk_drew BK21.1)
             have n8_:=a0_ (below_drew1 HB.1)
             clear HO_8
             clear HO_11
             clear Z18
             clear Z22
             clear BK1
             clear BK2
             clear BK17
             clear BK21
             clear HB
             have HO_8:=n0_
             have HO_11:=n1_
             have Z18:=n2_
             have Z22:=n3_
             have BK1:=n4_
             have BK2:=n5_
             have BK17:=n6_
             have BK21:=n7_
             have HB:=n8_
             clear n0_ n1_ n2_ n3_ n4_ n5_ n6_ n7_ n8_
             refine start_ (n:=7) (S:=fun w'=>w'.cell? ⟨gb1,0,none⟩ = some (.slice A0_0 l0_0.length c0_0) ∧ w'.cell? ⟨gb2,0,none⟩ = some (.slice A1_0 l1_0.length c1_0)) (ds:=[]) #[false,false,false,false,false,false,false] (by kernel_rfl) rfl rfl ⟨(blk_cell BK1.1 0).trans rfl,(blk_cell BK2.1 0).trans rfl⟩ (fun hHeld=>?_)
             generalize w96.drew = w97 at HO_8 HO_11 Z18 Z22 BK1 BK2 BK17 BK21 HB hHeld ⊢
             refine pure_ (i:=4) (N:=some 83) (v:=?_) (a':=?_) #[false,false,false,false,true,false,false] rfl rfl (by kernel_rfl) (fun _ _ _ h=>h) (Or.inl ⟨by rfl,?_⟩) ?_ ?_
             rotate_left
             ·intro w'
              go_simp
              with_reducible rfl
             rotate_left
             ·simp only [Act.put,s1_,s2_,s3_,i64_w,i32_w]
              rfl
             refine take_ (i:=0) (N:=some 79) (v:=?_) (a':=?_) #[true,false,false,false,true,false,false] rfl rfl (by kernel_rfl) (fun _ _ _ h=>h) (Or.inl ⟨by rfl,?_⟩) hHeld ?_ ?_
             rotate_left
             ·rintro w' ⟨s0,s1⟩
              go_simp
              with_reducible rfl
             rotate_left
             ·simp only [Act.put,s1_,s2_,s3_,i64_w,i32_w]
              rfl
             refine take_ (i:=2) (N:=some 81) (v:=?_) (a':=?_) #[true,false,true,false,true,false,false] rfl rfl (by kernel_rfl) (fun _ _ _ h=>h) (Or.inl ⟨by rfl,?_⟩) hHeld ?_ ?_
             rotate_left
             ·rintro w' ⟨s0,s1⟩
              go_simp
              with_reducible rfl
             rotate_left
             ·simp only [Act.put,s1_,s2_,s3_,i64_w,i32_w]
              rfl
             refine one_ (i:=1) (N:=some 80) #[true,true,true,false,true,false,false] rfl rfl (by kernel_rfl) (by decide) (fun K hK=>?_)
             refine goes_ Try.func17 (by kernel_rfl) rfl #[.agg #[.slice A0_0 l0_0.length c0_0]] (by rfl) rfl rfl lm_ ?_
             with_reducible refine (laws_toTree.calls kj35 _ _ l0_0 t42 _ ?side1 ?side2 A89.1).mono ?_
             (case side1=>exact cc_ (Kd.C_below HR0_0.1 HB.1))
             (case side2=>exact HC0_0.1)
             rintro e w98 ⟨v43,rfl,ho0,hb⟩
             refine ⟨_,rfl,?_⟩
             have n0_:=rb_ HO_8 hb
             have n1_:=rb_ HO_11 hb
             have n2_:=a0_ (Kd.R_elder' (rr_ Z18.1) (Kd.R_base ho0) hb)
             have n3_:=rb_ Z22 hb
             have n4_:=a0_ (Kd.R_lower (Kd.R_new' ho0 (Kd.R_lt (rr_ Z18.1))) (below_size hb_))
             have n5_:=kb_ BK1 hb
             have n6_:=kb_ BK2 hb
             have n7_:=kb_ BK17 hb
             have n8_:=kb_ BK21 hb
             have n9_:=a0_ (below_step hb_ hb)
             clear HO_8
             clear HO_11
             clear Z18
             clear Z22
             clear BK1
             clear BK2
             clear BK17
             clear BK21
             clear HB
             have HO_8:=n0_
             have HO_11:=n1_
             have Z18:=n2_
             have Z22:=n3_
             have HO44:=n4_
             have BK1:=n5_
             have BK2:=n6_
             have BK17:=n7_
             have BK21:=n8_
             have HB:=n9_
             clear n0_ n1_ n2_ n3_ n4_ n5_ n6_ n7_ n8_ n9_
             (try clear hb)
             (try clear hb2)
             (try clear hk)
             (try clear hi)
             (try clear ho0)
             refine hK.out _ _ ⟨(blk_cell BK1.1 0).trans rfl,(blk_cell BK2.1 0).trans rfl⟩ (fun hHeld=>?_)
             clear hK K
             refine norm_ (a':=?_) ?_ ?_
             rotate_left
             ·show Act.put _ (some 80) _ = _
              simp only [Act.put,s1_,s2_,s3_,i64_w,i32_w]
              rfl
             refine one_ (i:=3) (N:=some 82) #[true,true,true,true,true,false,false] rfl rfl (by kernel_rfl) (by decide) (fun K hK=>?_)
             refine goes_ Try.func18 (by kernel_rfl) rfl #[.agg #[.slice A1_0 l1_0.length c1_0]] (by rfl) rfl rfl lm_ ?_
             with_reducible refine (laws_toHeap.calls kj35 _ _ l1_0 t45 _ ?side1 ?side2 A90.1).mono ?_
             (case side1=>exact cc_ (Kd.C_below HR1_0.1 HB.1))
             (case side2=>exact HC1_0.1)
             rintro e w99 ⟨v46,rfl,ho0,hb⟩
             refine ⟨_,rfl,?_⟩
             have n0_:=rb_ HO_8 hb
             have n1_:=rb_ HO_11 hb
             have n2_:=rb_ Z18 hb
             have n3_:=a0_ (Kd.R_elder' (rr_ Z22.1) (Kd.R_base ho0) hb)
             have n4_:=rb_ HO44 hb
             have n5_:=a0_ (Kd.R_lower (Kd.R_new' ho0 (Kd.R_lt (rr_ Z22.1))) (below_size hb_))
             have n6_:=kb_ BK1 hb
             have n7_:=kb_ BK2 hb
             have n8_:=kb_ BK17 hb
             have n9_:=kb_ BK21 hb
             have n10_:=a0_ (below_step hb_ hb)
             clear HO_8
             clear HO_11
             clear Z18
             clear Z22
             clear HO44
             clear BK1
             clear BK2
             clear BK17
             clear BK21
             clear HB
             have HO_8:=n0_
             have HO_11:=n1_
             have Z18:=n2_
             have Z22:=n3_
             have HO44:=n4_
             have HO47:=n5_
             have BK1:=n6_
             have BK2:=n7_
             have BK17:=n8_
             have BK21:=n9_
             have HB:=n10_
             clear n0_ n1_ n2_ n3_ n4_ n5_ n6_ n7_ n8_ n9_ n10_
             (try clear hb)
             (try clear hb2)
             (try clear hk)
             (try clear hi)
             (try clear ho0)
             obtain ⟨Ao100,co100,eo100⟩:=Kd.R_slice HO44.1
             (first | subst eo100 | (injection eo100 with f1_ f2_ f3_;have f4_:=f1_.symm;have f5_:=f3_.symm;clear f1_ f2_ f3_;subst f4_;subst f5_))
             obtain ⟨Ao101,co101,eo101⟩:=Kd.R_slice HO47.1
             (first | subst eo101 | (injection eo101 with f1_ f2_ f3_;have f4_:=f1_.symm;have f5_:=f3_.symm;clear f1_ f2_ f3_;subst f4_;subst f5_))
             refine hK.out _ _ ⟨(blk_cell BK1.1 0).trans rfl,(blk_cell BK2.1 0).trans rfl⟩ (fun hHeld=>?_)
             clear hK K
             refine norm_ (a':=?_) ?_ ?_
             rotate_left
             ·show Act.put _ (some 82) _ = _
              simp only [Act.put,s1_,s2_,s3_,i64_w,i32_w]
              rfl
             refine one_ (i:=5) (N:=some 84) #[true,true,true,true,true,true,false] rfl rfl (by kernel_rfl) (by decide) (fun K hK=>?_)
             refine goes_ Try.func34 (by kernel_rfl) rfl #[.agg #[.slice Ao100 t42.length co100],.agg #[.slice Ao101 t45.length co101],.int .i64 a2] (by rfl) rfl rfl lm_ ?_
             with_reducible refine (impl_ContextChain.calls _ _ t42 _ _ t45 a2 t48 _ ?side1 ?side2 ?side3 ?side4 A91.1).mono ?_
             (case side1=>exact cc_ (Kd.R_reads' HO44.1).2.2)
             (case side2=>exact (Kd.R_reads' HO44.1).2.1)
             (case side3=>exact cc_ (Kd.R_reads' HO47.1).2.2)
             (case side4=>exact (Kd.R_reads' HO47.1).2.1)
             rintro e w102 ⟨v49,rfl,ho0,hb⟩
             refine ⟨_,rfl,?_⟩
             have n0_:=a0_ (Kd.R_elder' (rr_ HO_8.1) (Kd.R_base ho0) hb)
             have n1_:=a0_ (Kd.R_elder' (rr_ HO_11.1) (Kd.R_base ho0) hb)
             have n2_:=rb_ Z18 hb
             have n3_:=rb_ Z22 hb
             have n4_:=rb_ HO44 hb
             have n5_:=rb_ HO47 hb
             have n6_:=a0_ (Kd.R_lower (Kd.R_new' (Kd.R_new' ho0 (Kd.R_lt (rr_ HO_8.1))) (Kd.R_lt (rr_ HO_11.1))) (below_size hb_))
             have n7_:=kb_ BK1 hb
             have n8_:=kb_ BK2 hb
             have n9_:=kb_ BK17 hb
             have n10_:=kb_ BK21 hb
             have n11_:=a0_ (below_step hb_ hb)
             clear HO_8
             clear HO_11
             clear Z18
             clear Z22
             clear HO44
             clear HO47
             clear BK1
             clear BK2
             clear BK17
             clear BK21
             clear HB
             have HO_8:=n0_
             have HO_11:=n1_
             have Z18:=n2_
             have Z22:=n3_
             have HO44:=n4_
             have HO47:=n5_
             have HO50:=n6_
             have BK1:=n7_
             have BK2:=n8_
             have BK17:=n9_
             have BK21:=n10_
             have HB:=n11_
             clear n0_ n1_ n2_ n3_ n4_ n5_ n6_ n7_ n8_ n9_ n10_ n11_
             (try clear hb)
             (try clear hb2)
             (try clear hk)
             (try clear hi)
             (try clear ho0)
             refine hK.out _ _ ⟨(blk_cell BK1.1 0).trans rfl,(blk_cell BK2.1 0).trans rfl⟩ (fun hHeld=>?_)
             clear hK K
             refine norm_ (a':=?_) ?_ ?_
             rotate_left
             ·show Act.put _ (some 84) _ = _
              simp only [Act.put,s1_,s2_,s3_,i64_w,i32_w]
              rfl
             refine pure_ (i:=6) (N:=some 15) (v:=?_) (a':=?_) #[true,true,true,true,true,true,true] rfl rfl (by kernel_rfl) (fun _ _ _ h=>h) (Or.inl ⟨by rfl,?_⟩) ?_ ?_
             rotate_left
             ·intro w'
              go_simp
              with_reducible rfl
             rotate_left
             ·simp only [Act.put,s1_,s2_,s3_,i64_w,i32_w]
              rfl
             refine done_ (by kernel_rfl) ?_
             obtain ⟨Ao103,co103,eo103⟩:=Kd.R_slice HO50.1
             subst eo103
             try go_wp2_with (first | ((with_reducible refine gate_callee (f:=28) rfl ?_);refine goesL_ (some 87) rfl rfl Try.func28 (by kernel_rfl) rfl #[.slice Ao103 t48.length co103,.slice Ao68 t11.length co68] rfl lm_ ?_;(with_reducible refine (laws_eqIntS.calls kj35 _ _ t48 _ _ t11 true _ ?side1 ?side2 ?side3 ?side4 A92.1).mono ?_);(case side1=>exact cc_ (Kd.R_reads' HO50.1).2.2);(case side2=>exact (Kd.R_reads' HO50.1).2.1);(case side3=>exact cc_ (Kd.R_reads' HO_8.1).2.2);(case side4=>exact (Kd.R_reads' HO_8.1).2.1);rintro e w' ⟨rfl,⟨nd,rfl⟩⟩;refine ⟨_,rfl,?_⟩) | ((with_reducible refine gate_callee (f:=32) rfl ?_);refine goesL_ (some 91) rfl rfl Try.func32 (by kernel_rfl) rfl #[.slice Ao67 t40.length co67,.int .i64 1] rfl (by (try simp only [List.map_toArray,List.map_cons,List.map_nil]);first | done | (rw [show t40.length = t22.length from (Kd.R_reads' HO_11.1).1.symm] <;> rfl) | rfl | (simp only [List.length_drop,List.length_take];rfl)) ?_;(with_reducible refine (laws_heldIntS.calls kj35 _ _ t40 1 t52 _ ?side1 ?side2 A94.1).mono ?_);(case side1=>exact cc_ (Kd.R_reads' HO_11.1).2.2);(case side2=>rw [show t40.length = t22.length from (Kd.R_reads' HO_11.1).1.symm];exact (Kd.R_reads' HO_11.1).2.1);rintro e w' ⟨rfl,⟨nd,rfl⟩⟩;refine ⟨_,rfl,?_⟩))
             go_ret
             exact ⟨by first | rfl | (simp [errW_none,errW_some] <;> rfl) | (simp [*,errW_none,errW_some] <;> rfl),hb_⟩
            ·rw [if_neg c95] at H
             have c95b0 : decide (t52 < 0) = false:=decide_eq_false c95
             clear c95
             by_cases c104 : t52 = t39
             ·rw [if_pos c104] at H
              have c104b0 : (t52 == t39) = true:=beq_iff_eq.mpr c104
              have c104b1 : (t52 != t39) = false:=bne_eq_false_iff_eq.mpr c104
              clear c104
              obtain rfl:=Option.some.inj H
              try go_wp2_with (first | ((with_reducible refine gate_callee (f:=31) rfl ?_);refine goesL_ (some 70) rfl rfl Try.func31 (by kernel_rfl) rfl #[.slice Ao67 t22.length co67,.int .i64 1] rfl lm_ ?_;(with_reducible refine (laws_markIntS.calls kj35 (fun k_=>some k_ = (.slice Ao67 t22.length co67 : Value).ownBlock) (.slice Ao67 t22.length co67) t22 1 t39 t40 w _ ?side1 ?side2 A84.1).mono ?_);(case side1=>exact hb_);(case side2=>exact Kd.R_tight rfl HO_11.1);rintro e w105 ⟨rfl,hy0,hb,hkp⟩;refine ⟨_,rfl,?_⟩;have n0_:=a0_ (Kd.R_mono (ok':=fun k_=>some k_ ≠ (.slice Ao67 t22.length co67 : Value).ownBlock) (Kd.R_keptB (HO_8.1) hkp (fun k_ hk_ hs_=>(hk_) hs_)) (fun k_ hk_=>hk_.1));have n1_:=a0_ (Kd.R_reok rfl hy0 (fun k_ e_=>HO_11.1.1 k_ e_));have n2_:=a0_ (Kd.R_mono (ok':=fun k_=>True) (Kd.R_keptB ((Kd.R_apart' Z18.1 (Kd.R_typed HO_11.1) (by decide))) hkp (fun k_ hk_ hs_=>(hk_.2) hs_)) (fun k_ hk_=>trivial));have n3_:=a0_ (Kd.R_mono (ok':=fun k_=>True) (Kd.R_keptB ((Kd.R_apart' Z22.1 (Kd.R_typed HO_11.1) (by decide))) hkp (fun k_ hk_ hs_=>(hk_.2) hs_)) (fun k_ hk_=>trivial));have n4_:=a0_ (blk_kept (bb_ BK1.1) hkp (fun hs_=>(fun e_=>(Kd.R_ne HO_11.1 BK1.1 (by decide)) e_) hs_));have n5_:=a0_ (blk_kept (bb_ BK2.1) hkp (fun hs_=>(fun e_=>(Kd.R_ne HO_11.1 BK2.1 (by decide)) e_) hs_));have n6_:=a0_ (blk_kept (bb_ BK17.1) hkp (fun hs_=>(fun e_=>(Kd.R_ne HO_11.1 BK17.1 (by decide)) e_) hs_));have n7_:=a0_ (blk_kept (bb_ BK21.1) hkp (fun hs_=>(fun e_=>(Kd.R_ne HO_11.1 BK21.1 (by decide)) e_) hs_));have n8_:=a0_ (hb);clear HO_8 HO_11;clear Z18 Z22;clear BK1 BK2;clear BK17 BK21 HB;have HO_8:=n0_;have HO_11:=n1_;have Z18:=n2_;have Z22:=n3_;have BK1:=n4_;have BK2:=n5_;have BK17:=n6_;have BK21:=n7_;have HB:=n8_;clear n0_ n1_ n2_ n3_ n4_ n5_ n6_ n7_ n8_;(try clear hb);(try clear hkp);(try clear hy0)) | ((with_reducible refine gate_callee (f:=32) rfl ?_);refine goesL_ (some 73) rfl rfl Try.func32 (by kernel_rfl) rfl #[.slice Ao67 t40.length co67,.int .i64 1] rfl (by (try simp only [List.map_toArray,List.map_cons,List.map_nil]);first | done | (rw [show t40.length = t22.length from (Kd.R_reads' HO_11.1).1.symm] <;> rfl) | rfl | (simp only [List.length_drop,List.length_take];rfl)) ?_;(with_reducible refine (laws_heldIntS.calls kj35 _ _ t40 1 t41 _ ?side1 ?side2 A85.1).mono ?_);(case side1=>exact cc_ (Kd.R_reads' HO_11.1).2.2);(case side2=>rw [show t40.length = t22.length from (Kd.R_reads' HO_11.1).1.symm];exact (Kd.R_reads' HO_11.1).2.1);rintro e w' ⟨rfl,⟨nd,rfl⟩⟩;refine ⟨_,rfl,?_⟩))
              (try (rw [drewN_self w105];generalize hq_ : World.drewN w105 _ = w105;have n0_ : Aside0 (Kd.R (Kd.int .i64) 3 w105 w.heap.size (fun k_=>some k_ ≠ (.slice Ao68 t11.length co68 : Value).ownBlock) (.slice Ao67 t22.length co67) t40):=⟨by rw [← hq_];exact (rr_ HO_11.1)⟩;have n1_ : Aside0 (Kd.R k106 106 w105 w.heap.size (fun k_=>True) (.slice Ao53 t35.length co53) t35):=⟨by rw [← hq_];exact (rr_ Z18.1)⟩;have n2_ : Aside0 (Kd.R k79 79 w105 w.heap.size (fun k_=>True) (.slice Ao60 t37.length co60) t37):=⟨by rw [← hq_];exact (rr_ Z22.1)⟩;have n3_ : Aside0 (Kd.R (Kd.int .i64) 3 w105 w.heap.size (fun k_=>some k_ ≠ (.slice Ao67 t22.length co67 : Value).ownBlock) (.slice Ao68 t11.length co68) t11):=⟨by rw [← hq_];exact (rr_ HO_8.1)⟩;have n4_ : Aside0 (w105.heap[gb1]? = some (.cells #[.slice A0_0 l0_0.length c0_0] 24 (0,0))):=⟨by rw [← hq_];exact (bb_ BK1.1)⟩;have n5_ : Aside0 (w105.heap[gb17]? = some (.cells #[.slice Ao53 t35.length co53] 33 (0,0))):=⟨by rw [← hq_];exact (bb_ BK17.1)⟩;have n6_ : Aside0 (w105.heap[gb2]? = some (.cells #[.slice A1_0 l1_0.length c1_0] 27 (0,0))):=⟨by rw [← hq_];exact (bb_ BK2.1)⟩;have n7_ : Aside0 (w105.heap[gb21]? = some (.cells #[.slice Ao60 t37.length co60] 37 (0,0))):=⟨by rw [← hq_];exact (bb_ BK21.1)⟩;have n8_ : Aside0 (Below w.heap.size w w105):=⟨by rw [← hq_];exact hb_⟩;clear HO_11 Z18 Z22 HO_8 BK1 BK17 BK2 BK21 HB hq_;have HO_11:=n0_;have Z18:=n1_;have Z22:=n2_;have HO_8:=n3_;have BK1:=n4_;have BK17:=n5_;have BK2:=n6_;have BK21:=n7_;have HB:=n8_;clear n0_ n1_ n2_ n3_ n4_ n5_ n6_ n7_ n8_))
              have n0_:=a0_ (Kd.R_drew HO_8.1)
              have n1_:=a0_ (Kd.R_drew HO_11.1)
              have n2_:=a0_ (Kd.R_drew Z18.1)
              have n3_:=a0_ (Kd.R_drew Z22.1)
              have n4_:=a0_ (blk_drew BK1.1)
              have n5_:=a0_ (blk_drew BK2.1)
              have n6_:=a0_ (blk_drew BK17.1)
              have n7_:=a0_ (blk_drew BK21.1)
              have n8_:=a0_ (below_drew1 HB.1)
              clear HO_8
              clear HO_11
              clear Z18
              clear Z22
              clear BK1
              clear BK2
              clear BK17
              clear BK21
              clear HB
              have HO_8:=n0_
              have HO_11:=n1_
              have Z18:=n2_
              have Z22:=n3_
              have BK1:=n4_
              have BK2:=n5_
              have BK17:=n6_
              have BK21:=n7_
              have HB:=n8_
              clear n0_ n1_ n2_ n3_ n4_ n5_ n6_ n7_ n8_
              refine start_ (n:=7) (S:=fun w'=>w'.cell? ⟨gb1,0,none⟩ = some (.slice A0_0 l0_0.length c0_0) ∧ w'.cell? ⟨gb2,0,none⟩ = some (.slice A1_0 l1_0.length c1_0)) (ds:=[]) #[false,false,false,false,false,false,false] (by kernel_rfl) rfl rfl ⟨(blk_cell BK1.1 0).trans rfl,(blk_cell BK2.1 0).trans rfl⟩ (fun hHeld=>?_)
              generalize w105.drew = w106 at HO_8 HO_11 Z18 Z22 BK1 BK2 BK17 BK21 HB hHeld ⊢
              refine pure_ (i:=4) (N:=some 83) (v:=?_) (a':=?_) #[false,false,false,false,true,false,false] rfl rfl (by kernel_rfl) (fun _ _ _ h=>h) (Or.inl ⟨by rfl,?_⟩) ?_ ?_
              rotate_left
              ·intro w'
               go_simp
               with_reducible rfl
              rotate_left
              ·simp only [Act.put,s1_,s2_,s3_,i64_w,i32_w]
               rfl
              refine take_ (i:=0) (N:=some 79) (v:=?_) (a':=?_) #[true,false,false,false,true,false,false] rfl rfl (by kernel_rfl) (fun _ _ _ h=>h) (Or.inl ⟨by rfl,?_⟩) hHeld ?_ ?_
              rotate_left
              ·rintro w' ⟨s0,s1⟩
               go_simp
               with_reducible rfl
              rotate_left
              ·simp only [Act.put,s1_,s2_,s3_,i64_w,i32_w]
               rfl
              refine take_ (i:=2) (N:=some 81) (v:=?_) (a':=?_) #[true,false,true,false,true,false,false] rfl rfl (by kernel_rfl) (fun _ _ _ h=>h) (Or.inl ⟨by rfl,?_⟩) hHeld ?_ ?_
              rotate_left
              ·rintro w' ⟨s0,s1⟩
               go_simp
               with_reducible rfl
              rotate_left
              ·simp only [Act.put,s1_,s2_,s3_,i64_w,i32_w]
               rfl
              refine one_ (i:=1) (N:=some 80) #[true,true,true,false,true,false,false] rfl rfl (by kernel_rfl) (by decide) (fun K hK=>?_)
              refine goes_ Try.func17 (by kernel_rfl) rfl #[.agg #[.slice A0_0 l0_0.length c0_0]] (by rfl) rfl rfl lm_ ?_
              with_reducible refine (laws_toTree.calls kj35 _ _ l0_0 t42 _ ?side1 ?side2 A89.1).mono ?_
              (case side1=>exact cc_ (Kd.C_below HR0_0.1 HB.1))
              (case side2=>exact HC0_0.1)
              rintro e w107 ⟨v43,rfl,ho0,hb⟩
              refine ⟨_,rfl,?_⟩
              have n0_:=rb_ HO_8 hb
              have n1_:=rb_ HO_11 hb
              have n2_:=a0_ (Kd.R_elder' (rr_ Z18.1) (Kd.R_base ho0) hb)
              have n3_:=rb_ Z22 hb
              have n4_:=a0_ (Kd.R_lower (Kd.R_new' ho0 (Kd.R_lt (rr_ Z18.1))) (below_size hb_))
              have n5_:=kb_ BK1 hb
              have n6_:=kb_ BK2 hb
              have n7_:=kb_ BK17 hb
              have n8_:=kb_ BK21 hb
              have n9_:=a0_ (below_step hb_ hb)
              clear HO_8
              clear HO_11
              clear Z18
              clear Z22
              clear BK1
              clear BK2
              clear BK17
              clear BK21
              clear HB
              have HO_8:=n0_
              have HO_11:=n1_
              have Z18:=n2_
              have Z22:=n3_
              have HO44:=n4_
              have BK1:=n5_
              have BK2:=n6_
              have BK17:=n7_
              have BK21:=n8_
              have HB:=n9_
              clear n0_ n1_ n2_ n3_ n4_ n5_ n6_ n7_ n8_ n9_
              (try clear hb)
              (try clear hb2)
              (try clear hk)
              (try clear hi)
              (try clear ho0)
              refine hK.out _ _ ⟨(blk_cell BK1.1 0).trans rfl,(blk_cell BK2.1 0).trans rfl⟩ (fun hHeld=>?_)
              clear hK K
              refine norm_ (a':=?_) ?_ ?_
              rotate_left
              ·show Act.put _ (some 80) _ = _
               simp only [Act.put,s1_,s2_,s3_,i64_w,i32_w]
               rfl
              refine one_ (i:=3) (N:=some 82) #[true,true,true,true,true,false,false] rfl rfl (by kernel_rfl) (by decide) (fun K hK=>?_)
              refine goes_ Try.func18 (by kernel_rfl) rfl #[.agg #[.slice A1_0 l1_0.length c1_0]] (by rfl) rfl rfl lm_ ?_
              with_reducible refine (laws_toHeap.calls kj35 _ _ l1_0 t45 _ ?side1 ?side2 A90.1).mono ?_
              (case side1=>exact cc_ (Kd.C_below HR1_0.1 HB.1))
              (case side2=>exact HC1_0.1)
              rintro e w108 ⟨v46,rfl,ho0,hb⟩
              refine ⟨_,rfl,?_⟩
              have n0_:=rb_ HO_8 hb
              have n1_:=rb_ HO_11 hb
              have n2_:=rb_ Z18 hb
              have n3_:=a0_ (Kd.R_elder' (rr_ Z22.1) (Kd.R_base ho0) hb)
              have n4_:=rb_ HO44 hb
              have n5_:=a0_ (Kd.R_lower (Kd.R_new' ho0 (Kd.R_lt (rr_ Z22.1))) (below_size hb_))
              have n6_:=kb_ BK1 hb
              have n7_:=kb_ BK2 hb
              have n8_:=kb_ BK17 hb
              have n9_:=kb_ BK21 hb
              have n10_:=a0_ (below_step hb_ hb)
              clear HO_8
              clear HO_11
              clear Z18
              clear Z22
              clear HO44
              clear BK1
              clear BK2
              clear BK17
              clear BK21
              clear HB
              have HO_8:=n0_
              have HO_11:=n1_
              have Z18:=n2_
              have Z22:=n3_
              have HO44:=n4_
              have HO47:=n5_
              have BK1:=n6_
              have BK2:=n7_
              have BK17:=n8_
              have BK21:=n9_
              have HB:=n10_
              clear n0_ n1_ n2_ n3_ n4_ n5_ n6_ n7_ n8_ n9_ n10_
              (try clear hb)
              (try clear hb2)
              (try clear hk)
              (try clear hi)
              (try clear ho0)
              obtain ⟨Ao109,co109,eo109⟩:=Kd.R_slice HO44.1
              (first | subst eo109 | (injection eo109 with f1_ f2_ f3_;have f4_:=f1_.symm;have f5_:=f3_.symm;clear f1_ f2_ f3_;subst f4_;subst f5_))
              obtain ⟨Ao110,co110,eo110⟩:=Kd.R_slice HO47.1
              (first | subst eo110 | (injection eo110 with f1_ f2_ f3_;have f4_:=f1_.symm;have f5_:=f3_.symm;clear f1_ f2_ f3_;subst f4_;subst f5_))
              refine hK.out _ _ ⟨(blk_cell BK1.1 0).trans rfl,(blk_cell BK2.1 0).trans rfl⟩ (fun hHeld=>?_)
              clear hK K
              refine norm_ (a':=?_) ?_ ?_
              rotate_left
              ·show Act.put _ (some 82) _ = _
               simp only [Act.put,s1_,s2_,s3_,i64_w,i32_w]
               rfl
              refine one_ (i:=5) (N:=some 84) #[true,true,true,true,true,true,false] rfl rfl (by kernel_rfl) (by decide) (fun K hK=>?_)
              refine goes_ Try.func34 (by kernel_rfl) rfl #[.agg #[.slice Ao109 t42.length co109],.agg #[.slice Ao110 t45.length co110],.int .i64 a2] (by rfl) rfl rfl lm_ ?_
              with_reducible refine (impl_ContextChain.calls _ _ t42 _ _ t45 a2 t48 _ ?side1 ?side2 ?side3 ?side4 A91.1).mono ?_
              (case side1=>exact cc_ (Kd.R_reads' HO44.1).2.2)
              (case side2=>exact (Kd.R_reads' HO44.1).2.1)
              (case side3=>exact cc_ (Kd.R_reads' HO47.1).2.2)
              (case side4=>exact (Kd.R_reads' HO47.1).2.1)
              rintro e w111 ⟨v49,rfl,ho0,hb⟩
              refine ⟨_,rfl,?_⟩
              have n0_:=a0_ (Kd.R_elder' (rr_ HO_8.1) (Kd.R_base ho0) hb)
              have n1_:=a0_ (Kd.R_elder' (rr_ HO_11.1) (Kd.R_base ho0) hb)
              have n2_:=rb_ Z18 hb
              have n3_:=rb_ Z22 hb
              have n4_:=rb_ HO44 hb
              have n5_:=rb_ HO47 hb
              have n6_:=a0_ (Kd.R_lower (Kd.R_new' (Kd.R_new' ho0 (Kd.R_lt (rr_ HO_8.1))) (Kd.R_lt (rr_ HO_11.1))) (below_size hb_))
              have n7_:=kb_ BK1 hb
              have n8_:=kb_ BK2 hb
              have n9_:=kb_ BK17 hb
              have n10_:=kb_ BK21 hb
              have n11_:=a0_ (below_step hb_ hb)
              clear HO_8
              clear HO_11
              clear Z18
              clear Z22
              clear HO44
              clear HO47
              clear BK1
              clear BK2
              clear BK17
              clear BK21
              clear HB
              have HO_8:=n0_
              have HO_11:=n1_
              have Z18:=n2_
              have Z22:=n3_
              have HO44:=n4_
              have HO47:=n5_
              have HO50:=n6_
              have BK1:=n7_
              have BK2:=n8_
              have BK17:=n9_
              have BK21:=n10_
              have HB:=n11_
              clear n0_ n1_ n2_ n3_ n4_ n5_ n6_ n7_ n8_ n9_ n10_ n11_
              (try clear hb)
              (try clear hb2)
              (try clear hk)
              (try clear hi)
              (try clear ho0)
              refine hK.out _ _ ⟨(blk_cell BK1.1 0).trans rfl,(blk_cell BK2.1 0).trans rfl⟩ (fun hHeld=>?_)
              clear hK K
              refine norm_ (a':=?_) ?_ ?_
              rotate_left
              ·show Act.put _ (some 84) _ = _
               simp only [Act.put,s1_,s2_,s3_,i64_w,i32_w]
               rfl
              refine pure_ (i:=6) (N:=some 15) (v:=?_) (a':=?_) #[true,true,true,true,true,true,true] rfl rfl (by kernel_rfl) (fun _ _ _ h=>h) (Or.inl ⟨by rfl,?_⟩) ?_ ?_
              rotate_left
              ·intro w'
               go_simp
               with_reducible rfl
              rotate_left
              ·simp only [Act.put,s1_,s2_,s3_,i64_w,i32_w]
               rfl
              refine done_ (by kernel_rfl) ?_
              obtain ⟨Ao112,co112,eo112⟩:=Kd.R_slice HO50.1
              subst eo112
              try go_wp2_with (first | ((with_reducible refine gate_callee (f:=28) rfl ?_);refine goesL_ (some 87) rfl rfl Try.func28 (by kernel_rfl) rfl #[.slice Ao112 t48.length co112,.slice Ao68 t11.length co68] rfl lm_ ?_;(with_reducible refine (laws_eqIntS.calls kj35 _ _ t48 _ _ t11 true _ ?side1 ?side2 ?side3 ?side4 A92.1).mono ?_);(case side1=>exact cc_ (Kd.R_reads' HO50.1).2.2);(case side2=>exact (Kd.R_reads' HO50.1).2.1);(case side3=>exact cc_ (Kd.R_reads' HO_8.1).2.2);(case side4=>exact (Kd.R_reads' HO_8.1).2.1);rintro e w' ⟨rfl,⟨nd,rfl⟩⟩;refine ⟨_,rfl,?_⟩) | ((with_reducible refine gate_callee (f:=32) rfl ?_);refine goesL_ (some 91) rfl rfl Try.func32 (by kernel_rfl) rfl #[.slice Ao67 t40.length co67,.int .i64 1] rfl (by (try simp only [List.map_toArray,List.map_cons,List.map_nil]);first | done | (rw [show t40.length = t22.length from (Kd.R_reads' HO_11.1).1.symm] <;> rfl) | rfl | (simp only [List.length_drop,List.length_take];rfl)) ?_;(with_reducible refine (laws_heldIntS.calls kj35 _ _ t40 1 t52 _ ?side1 ?side2 A94.1).mono ?_);(case side1=>exact cc_ (Kd.R_reads' HO_11.1).2.2);(case side2=>rw [show t40.length = t22.length from (Kd.R_reads' HO_11.1).1.symm];exact (Kd.R_reads' HO_11.1).2.1);rintro e w' ⟨rfl,⟨nd,rfl⟩⟩;refine ⟨_,rfl,?_⟩))
              go_ret
              exact ⟨by first | rfl | (simp [errW_none,errW_some] <;> rfl) | (simp [*,errW_none,errW_some] <;> rfl),hb_⟩
             ·rw [if_neg c104] at H
              have c104b0 : (t52 == t39) = false:=beq_eq_false_iff_ne.mpr c104
              have c104b1 : (t52 != t39) = true:=bne_iff_ne.mpr c104
              obtain rfl:=Option.some.inj H
              try go_wp2_with (first | ((with_reducible refine gate_callee (f:=31) rfl ?_);refine goesL_ (some 70) rfl rfl Try.func31 (by kernel_rfl) rfl #[.slice Ao67 t22.length co67,.int .i64 1] rfl lm_ ?_;(with_reducible refine (laws_markIntS.calls kj35 (fun k_=>some k_ = (.slice Ao67 t22.length co67 : Value).ownBlock) (.slice Ao67 t22.length co67) t22 1 t39 t40 w _ ?side1 ?side2 A84.1).mono ?_);(case side1=>exact hb_);(case side2=>exact Kd.R_tight rfl HO_11.1);rintro e w113 ⟨rfl,hy0,hb,hkp⟩;refine ⟨_,rfl,?_⟩;have n0_:=a0_ (Kd.R_mono (ok':=fun k_=>some k_ ≠ (.slice Ao67 t22.length co67 : Value).ownBlock) (Kd.R_keptB (HO_8.1) hkp (fun k_ hk_ hs_=>(hk_) hs_)) (fun k_ hk_=>hk_.1));have n1_:=a0_ (Kd.R_reok rfl hy0 (fun k_ e_=>HO_11.1.1 k_ e_));have n2_:=a0_ (Kd.R_mono (ok':=fun k_=>True) (Kd.R_keptB ((Kd.R_apart' Z18.1 (Kd.R_typed HO_11.1) (by decide))) hkp (fun k_ hk_ hs_=>(hk_.2) hs_)) (fun k_ hk_=>trivial));have n3_:=a0_ (Kd.R_mono (ok':=fun k_=>True) (Kd.R_keptB ((Kd.R_apart' Z22.1 (Kd.R_typed HO_11.1) (by decide))) hkp (fun k_ hk_ hs_=>(hk_.2) hs_)) (fun k_ hk_=>trivial));have n4_:=a0_ (blk_kept (bb_ BK1.1) hkp (fun hs_=>(fun e_=>(Kd.R_ne HO_11.1 BK1.1 (by decide)) e_) hs_));have n5_:=a0_ (blk_kept (bb_ BK2.1) hkp (fun hs_=>(fun e_=>(Kd.R_ne HO_11.1 BK2.1 (by decide)) e_) hs_));have n6_:=a0_ (blk_kept (bb_ BK17.1) hkp (fun hs_=>(fun e_=>(Kd.R_ne HO_11.1 BK17.1 (by decide)) e_) hs_));have n7_:=a0_ (blk_kept (bb_ BK21.1) hkp (fun hs_=>(fun e_=>(Kd.R_ne HO_11.1 BK21.1 (by decide)) e_) hs_));have n8_:=a0_ (hb);clear HO_8 HO_11;clear Z18 Z22;clear BK1 BK2;clear BK17 BK21 HB;have HO_8:=n0_;have HO_11:=n1_;have Z18:=n2_;have Z22:=n3_;have BK1:=n4_;have BK2:=n5_;have BK17:=n6_;have BK21:=n7_;have HB:=n8_;clear n0_ n1_ n2_ n3_ n4_ n5_ n6_ n7_ n8_;(try clear hb);(try clear hkp);(try clear hy0)) | ((with_reducible refine gate_callee (f:=32) rfl ?_);refine goesL_ (some 73) rfl rfl Try.func32 (by kernel_rfl) rfl #[.slice Ao67 t40.length co67,.int .i64 1] rfl (by (try simp only [List.map_toArray,List.map_cons,List.map_nil]);first | done | (rw [show t40.length = t22.length from (Kd.R_reads' HO_11.1).1.symm] <;> rfl) | rfl | (simp only [List.length_drop,List.length_take];rfl)) ?_;(with_reducible refine (laws_heldIntS.calls kj35 _ _ t40 1 t41 _ ?side1 ?side2 A85.1).mono ?_);(case side1=>exact cc_ (Kd.R_reads' HO_11.1).2.2);(case side2=>rw [show t40.length = t22.length from (Kd.R_reads' HO_11.1).1.symm];exact (Kd.R_reads' HO_11.1).2.1);rintro e w' ⟨rfl,⟨nd,rfl⟩⟩;refine ⟨_,rfl,?_⟩))
              (try (rw [drewN_self w113];generalize hq_ : World.drewN w113 _ = w113;have n0_ : Aside0 (Kd.R (Kd.int .i64) 3 w113 w.heap.size (fun k_=>some k_ ≠ (.slice Ao68 t11.length co68 : Value).ownBlock) (.slice Ao67 t22.length co67) t40):=⟨by rw [← hq_];exact (rr_ HO_11.1)⟩;have n1_ : Aside0 (Kd.R k106 106 w113 w.heap.size (fun k_=>True) (.slice Ao53 t35.length co53) t35):=⟨by rw [← hq_];exact (rr_ Z18.1)⟩;have n2_ : Aside0 (Kd.R k79 79 w113 w.heap.size (fun k_=>True) (.slice Ao60 t37.length co60) t37):=⟨by rw [← hq_];exact (rr_ Z22.1)⟩;have n3_ : Aside0 (Kd.R (Kd.int .i64) 3 w113 w.heap.size (fun k_=>some k_ ≠ (.slice Ao67 t22.length co67 : Value).ownBlock) (.slice Ao68 t11.length co68) t11):=⟨by rw [← hq_];exact (rr_ HO_8.1)⟩;have n4_ : Aside0 (w113.heap[gb1]? = some (.cells #[.slice A0_0 l0_0.length c0_0] 24 (0,0))):=⟨by rw [← hq_];exact (bb_ BK1.1)⟩;have n5_ : Aside0 (w113.heap[gb17]? = some (.cells #[.slice Ao53 t35.length co53] 33 (0,0))):=⟨by rw [← hq_];exact (bb_ BK17.1)⟩;have n6_ : Aside0 (w113.heap[gb2]? = some (.cells #[.slice A1_0 l1_0.length c1_0] 27 (0,0))):=⟨by rw [← hq_];exact (bb_ BK2.1)⟩;have n7_ : Aside0 (w113.heap[gb21]? = some (.cells #[.slice Ao60 t37.length co60] 37 (0,0))):=⟨by rw [← hq_];exact (bb_ BK21.1)⟩;have n8_ : Aside0 (Below w.heap.size w w113):=⟨by rw [← hq_];exact hb_⟩;clear HO_11 Z18 Z22 HO_8 BK1 BK17 BK2 BK21 HB hq_;have HO_11:=n0_;have Z18:=n1_;have Z22:=n2_;have HO_8:=n3_;have BK1:=n4_;have BK17:=n5_;have BK2:=n6_;have BK21:=n7_;have HB:=n8_;clear n0_ n1_ n2_ n3_ n4_ n5_ n6_ n7_ n8_))
              have n0_:=a0_ (Kd.R_drew HO_8.1)
              have n1_:=a0_ (Kd.R_drew HO_11.1)
              have n2_:=a0_ (Kd.R_drew Z18.1)
              have n3_:=a0_ (Kd.R_drew Z22.1)
              have n4_:=a0_ (blk_drew BK1.1)
              have n5_:=a0_ (blk_drew BK2.1)
              have n6_:=a0_ (blk_drew BK17.1)
              have n7_:=a0_ (blk_drew BK21.1)
              have n8_:=a0_ (below_drew1 HB.1)
              clear HO_8
              clear HO_11
              clear Z18
              clear Z22
              clear BK1
              clear BK2
              clear BK17
              clear BK21
              clear HB
              have HO_8:=n0_
              have HO_11:=n1_
              have Z18:=n2_
              have Z22:=n3_
              have BK1:=n4_
              have BK2:=n5_
              have BK17:=n6_
              have BK21:=n7_
              have HB:=n8_
              clear n0_ n1_ n2_ n3_ n4_ n5_ n6_ n7_ n8_
              refine start_ (n:=7) (S:=fun w'=>w'.cell? ⟨gb1,0,none⟩ = some (.slice A0_0 l0_0.length c0_0) ∧ w'.cell? ⟨gb2,0,none⟩ = some (.slice A1_0 l1_0.length c1_0)) (ds:=[]) #[false,false,false,false,false,false,false] (by kernel_rfl) rfl rfl ⟨(blk_cell BK1.1 0).trans rfl,(blk_cell BK2.1 0).trans rfl⟩ (fun hHeld=>?_)
              generalize w113.drew = w114 at HO_8 HO_11 Z18 Z22 BK1 BK2 BK17 BK21 HB hHeld ⊢
              refine pure_ (i:=4) (N:=some 83) (v:=?_) (a':=?_) #[false,false,false,false,true,false,false] rfl rfl (by kernel_rfl) (fun _ _ _ h=>h) (Or.inl ⟨by rfl,?_⟩) ?_ ?_
              rotate_left
              ·intro w'
               go_simp
               with_reducible rfl
              rotate_left
              ·simp only [Act.put,s1_,s2_,s3_,i64_w,i32_w]
               rfl
              refine take_ (i:=0) (N:=some 79) (v:=?_) (a':=?_) #[true,false,false,false,true,false,false] rfl rfl (by kernel_rfl) (fun _ _ _ h=>h) (Or.inl ⟨by rfl,?_⟩) hHeld ?_ ?_
              rotate_left
              ·rintro w' ⟨s0,s1⟩
               go_simp
               with_reducible rfl
              rotate_left
              ·simp only [Act.put,s1_,s2_,s3_,i64_w,i32_w]
               rfl
              refine take_ (i:=2) (N:=some 81) (v:=?_) (a':=?_) #[true,false,true,false,true,false,false] rfl rfl (by kernel_rfl) (fun _ _ _ h=>h) (Or.inl ⟨by rfl,?_⟩) hHeld ?_ ?_
              rotate_left
              ·rintro w' ⟨s0,s1⟩
               go_simp
               with_reducible rfl
              rotate_left
              ·simp only [Act.put,s1_,s2_,s3_,i64_w,i32_w]
               rfl
              refine one_ (i:=1) (N:=some 80) #[true,true,true,false,true,false,false] rfl rfl (by kernel_rfl) (by decide) (fun K hK=>?_)
              refine goes_ Try.func17 (by kernel_rfl) rfl #[.agg #[.slice A0_0 l0_0.length c0_0]] (by rfl) rfl rfl lm_ ?_
              with_reducible refine (laws_toTree.calls kj35 _ _ l0_0 t42 _ ?side1 ?side2 A89.1).mono ?_
              (case side1=>exact cc_ (Kd.C_below HR0_0.1 HB.1))
              (case side2=>exact HC0_0.1)
              rintro e w115 ⟨v43,rfl,ho0,hb⟩
              refine ⟨_,rfl,?_⟩
              have n0_:=rb_ HO_8 hb
              have n1_:=rb_ HO_11 hb
              have n2_:=a0_ (Kd.R_elder' (rr_ Z18.1) (Kd.R_base ho0) hb)
              have n3_:=rb_ Z22 hb
              have n4_:=a0_ (Kd.R_lower (Kd.R_new' ho0 (Kd.R_lt (rr_ Z18.1))) (below_size hb_))
              have n5_:=kb_ BK1 hb
              have n6_:=kb_ BK2 hb
              have n7_:=kb_ BK17 hb
              have n8_:=kb_ BK21 hb
              have n9_:=a0_ (below_step hb_ hb)
              clear HO_8
              clear HO_11
              clear Z18
              clear Z22
              clear BK1
              clear BK2
              clear BK17
              clear BK21
              clear HB
              have HO_8:=n0_
              have HO_11:=n1_
              have Z18:=n2_
              have Z22:=n3_
              have HO44:=n4_
              have BK1:=n5_
              have BK2:=n6_
              have BK17:=n7_
              have BK21:=n8_
              have HB:=n9_
              clear n0_ n1_ n2_ n3_ n4_ n5_ n6_ n7_ n8_ n9_
              (try clear hb)
              (try clear hb2)
              (try clear hk)
              (try clear hi)
              (try clear ho0)
              refine hK.out _ _ ⟨(blk_cell BK1.1 0).trans rfl,(blk_cell BK2.1 0).trans rfl⟩ (fun hHeld=>?_)
              clear hK K
              refine norm_ (a':=?_) ?_ ?_
              rotate_left
              ·show Act.put _ (some 80) _ = _
               simp only [Act.put,s1_,s2_,s3_,i64_w,i32_w]
               rfl
              refine one_ (i:=3) (N:=some 82) #[true,true,true,true,true,false,false] rfl rfl (by kernel_rfl) (by decide) (fun K hK=>?_)
              refine goes_ Try.func18 (by kernel_rfl) rfl #[.agg #[.slice A1_0 l1_0.length c1_0]] (by rfl) rfl rfl lm_ ?_
              with_reducible refine (laws_toHeap.calls kj35 _ _ l1_0 t45 _ ?side1 ?side2 A90.1).mono ?_
              (case side1=>exact cc_ (Kd.C_below HR1_0.1 HB.1))
              (case side2=>exact HC1_0.1)
              rintro e w116 ⟨v46,rfl,ho0,hb⟩
              refine ⟨_,rfl,?_⟩
              have n0_:=rb_ HO_8 hb
              have n1_:=rb_ HO_11 hb
              have n2_:=rb_ Z18 hb
              have n3_:=a0_ (Kd.R_elder' (rr_ Z22.1) (Kd.R_base ho0) hb)
              have n4_:=rb_ HO44 hb
              have n5_:=a0_ (Kd.R_lower (Kd.R_new' ho0 (Kd.R_lt (rr_ Z22.1))) (below_size hb_))
              have n6_:=kb_ BK1 hb
              have n7_:=kb_ BK2 hb
              have n8_:=kb_ BK17 hb
              have n9_:=kb_ BK21 hb
              have n10_:=a0_ (below_step hb_ hb)
              clear HO_8
              clear HO_11
              clear Z18
              clear Z22
              clear HO44
              clear BK1
              clear BK2
              clear BK17
              clear BK21
              clear HB
              have HO_8:=n0_
              have HO_11:=n1_
              have Z18:=n2_
              have Z22:=n3_
              have HO44:=n4_
              have HO47:=n5_
              have BK1:=n6_
              have BK2:=n7_
              have BK17:=n8_
              have BK21:=n9_
              have HB:=n10_
              clear n0_ n1_ n2_ n3_ n4_ n5_ n6_ n7_ n8_ n9_ n10_
              (try clear hb)
              (try clear hb2)
              (try clear hk)
              (try clear hi)
              (try clear ho0)
              obtain ⟨Ao117,co117,eo117⟩:=Kd.R_slice HO44.1
              (first | subst eo117 | (injection eo117 with f1_ f2_ f3_;have f4_:=f1_.symm;have f5_:=f3_.symm;clear f1_ f2_ f3_;subst f4_;subst f5_))
              obtain ⟨Ao118,co118,eo118⟩:=Kd.R_slice HO47.1
              (first | subst eo118 | (injection eo118 with f1_ f2_ f3_;have f4_:=f1_.symm;have f5_:=f3_.symm;clear f1_ f2_ f3_;subst f4_;subst f5_))
              refine hK.out _ _ ⟨(blk_cell BK1.1 0).trans rfl,(blk_cell BK2.1 0).trans rfl⟩ (fun hHeld=>?_)
              clear hK K
              refine norm_ (a':=?_) ?_ ?_
              rotate_left
              ·show Act.put _ (some 82) _ = _
               simp only [Act.put,s1_,s2_,s3_,i64_w,i32_w]
               rfl
              refine one_ (i:=5) (N:=some 84) #[true,true,true,true,true,true,false] rfl rfl (by kernel_rfl) (by decide) (fun K hK=>?_)
              refine goes_ Try.func34 (by kernel_rfl) rfl #[.agg #[.slice Ao117 t42.length co117],.agg #[.slice Ao118 t45.length co118],.int .i64 a2] (by rfl) rfl rfl lm_ ?_
              with_reducible refine (impl_ContextChain.calls _ _ t42 _ _ t45 a2 t48 _ ?side1 ?side2 ?side3 ?side4 A91.1).mono ?_
              (case side1=>exact cc_ (Kd.R_reads' HO44.1).2.2)
              (case side2=>exact (Kd.R_reads' HO44.1).2.1)
              (case side3=>exact cc_ (Kd.R_reads' HO47.1).2.2)
              (case side4=>exact (Kd.R_reads' HO47.1).2.1)
              rintro e w119 ⟨v49,rfl,ho0,hb⟩
              refine ⟨_,rfl,?_⟩
              have n0_:=a0_ (Kd.R_elder' (rr_ HO_8.1) (Kd.R_base ho0) hb)
              have n1_:=a0_ (Kd.R_elder' (rr_ HO_11.1) (Kd.R_base ho0) hb)
              have n2_:=rb_ Z18 hb
              have n3_:=rb_ Z22 hb
              have n4_:=rb_ HO44 hb
              have n5_:=rb_ HO47 hb
              have n6_:=a0_ (Kd.R_lower (Kd.R_new' (Kd.R_new' ho0 (Kd.R_lt (rr_ HO_8.1))) (Kd.R_lt (rr_ HO_11.1))) (below_size hb_))
              have n7_:=kb_ BK1 hb
              have n8_:=kb_ BK2 hb
              have n9_:=kb_ BK17 hb
              have n10_:=kb_ BK21 hb
              have n11_:=a0_ (below_step hb_ hb)
              clear HO_8
              clear HO_11
              clear Z18
              clear Z22
              clear HO44
              clear HO47
              clear BK1
              clear BK2
              clear BK17
              clear BK21
              clear HB
              have HO_8:=n0_
              have HO_11:=n1_
              have Z18:=n2_
              have Z22:=n3_
              have HO44:=n4_
              have HO47:=n5_
              have HO50:=n6_
              have BK1:=n7_
              have BK2:=n8_
              have BK17:=n9_
              have BK21:=n10_
              have HB:=n11_
              clear n0_ n1_ n2_ n3_ n4_ n5_ n6_ n7_ n8_ n9_ n10_ n11_
              (try clear hb)
              (try clear hb2)
              (try clear hk)
              (try clear hi)
              (try clear ho0)
              refine hK.out _ _ ⟨(blk_cell BK1.1 0).trans rfl,(blk_cell BK2.1 0).trans rfl⟩ (fun hHeld=>?_)
              clear hK K
              refine norm_ (a':=?_) ?_ ?_
              rotate_left
              ·show Act.put _ (some 84) _ = _
               simp only [Act.put,s1_,s2_,s3_,i64_w,i32_w]
               rfl
              refine pure_ (i:=6) (N:=some 15) (v:=?_) (a':=?_) #[true,true,true,true,true,true,true] rfl rfl (by kernel_rfl) (fun _ _ _ h=>h) (Or.inl ⟨by rfl,?_⟩) ?_ ?_
              rotate_left
              ·intro w'
               go_simp
               with_reducible rfl
              rotate_left
              ·simp only [Act.put,s1_,s2_,s3_,i64_w,i32_w]
               rfl
              refine done_ (by kernel_rfl) ?_
              obtain ⟨Ao120,co120,eo120⟩:=Kd.R_slice HO50.1
              subst eo120
              try go_wp2_with (first | ((with_reducible refine gate_callee (f:=28) rfl ?_);refine goesL_ (some 87) rfl rfl Try.func28 (by kernel_rfl) rfl #[.slice Ao120 t48.length co120,.slice Ao68 t11.length co68] rfl lm_ ?_;(with_reducible refine (laws_eqIntS.calls kj35 _ _ t48 _ _ t11 true _ ?side1 ?side2 ?side3 ?side4 A92.1).mono ?_);(case side1=>exact cc_ (Kd.R_reads' HO50.1).2.2);(case side2=>exact (Kd.R_reads' HO50.1).2.1);(case side3=>exact cc_ (Kd.R_reads' HO_8.1).2.2);(case side4=>exact (Kd.R_reads' HO_8.1).2.1);rintro e w' ⟨rfl,⟨nd,rfl⟩⟩;refine ⟨_,rfl,?_⟩) | ((with_reducible refine gate_callee (f:=32) rfl ?_);refine goesL_ (some 91) rfl rfl Try.func32 (by kernel_rfl) rfl #[.slice Ao67 t40.length co67,.int .i64 1] rfl (by (try simp only [List.map_toArray,List.map_cons,List.map_nil]);first | done | (rw [show t40.length = t22.length from (Kd.R_reads' HO_11.1).1.symm] <;> rfl) | rfl | (simp only [List.length_drop,List.length_take];rfl)) ?_;(with_reducible refine (laws_heldIntS.calls kj35 _ _ t40 1 t52 _ ?side1 ?side2 A94.1).mono ?_);(case side1=>exact cc_ (Kd.R_reads' HO_11.1).2.2);(case side2=>rw [show t40.length = t22.length from (Kd.R_reads' HO_11.1).1.symm];exact (Kd.R_reads' HO_11.1).2.1);rintro e w' ⟨rfl,⟨nd,rfl⟩⟩;refine ⟨_,rfl,?_⟩))
              go_ret
              exact ⟨by first | rfl | (simp [errW_none,errW_some] <;> rfl) | (simp [*,errW_none,errW_some] <;> rfl),hb_⟩
           ·replace c93:=Bool.eq_false_iff.mpr c93
            subst c93
            have H1 : (some false) = some r:=by rw [if_neg (show ¬ (false = true) by decide)] at H;exact H
            clear H
            have H:=H1
            clear H1
            obtain rfl:=Option.some.inj H
            try go_wp2_with (first | ((with_reducible refine gate_callee (f:=31) rfl ?_);refine goesL_ (some 70) rfl rfl Try.func31 (by kernel_rfl) rfl #[.slice Ao67 t22.length co67,.int .i64 1] rfl lm_ ?_;(with_reducible refine (laws_markIntS.calls kj35 (fun k_=>some k_ = (.slice Ao67 t22.length co67 : Value).ownBlock) (.slice Ao67 t22.length co67) t22 1 t39 t40 w _ ?side1 ?side2 A84.1).mono ?_);(case side1=>exact hb_);(case side2=>exact Kd.R_tight rfl HO_11.1);rintro e w121 ⟨rfl,hy0,hb,hkp⟩;refine ⟨_,rfl,?_⟩;have n0_:=a0_ (Kd.R_mono (ok':=fun k_=>some k_ ≠ (.slice Ao67 t22.length co67 : Value).ownBlock) (Kd.R_keptB (HO_8.1) hkp (fun k_ hk_ hs_=>(hk_) hs_)) (fun k_ hk_=>hk_.1));have n1_:=a0_ (Kd.R_reok rfl hy0 (fun k_ e_=>HO_11.1.1 k_ e_));have n2_:=a0_ (Kd.R_mono (ok':=fun k_=>True) (Kd.R_keptB ((Kd.R_apart' Z18.1 (Kd.R_typed HO_11.1) (by decide))) hkp (fun k_ hk_ hs_=>(hk_.2) hs_)) (fun k_ hk_=>trivial));have n3_:=a0_ (Kd.R_mono (ok':=fun k_=>True) (Kd.R_keptB ((Kd.R_apart' Z22.1 (Kd.R_typed HO_11.1) (by decide))) hkp (fun k_ hk_ hs_=>(hk_.2) hs_)) (fun k_ hk_=>trivial));have n4_:=a0_ (blk_kept (bb_ BK1.1) hkp (fun hs_=>(fun e_=>(Kd.R_ne HO_11.1 BK1.1 (by decide)) e_) hs_));have n5_:=a0_ (blk_kept (bb_ BK2.1) hkp (fun hs_=>(fun e_=>(Kd.R_ne HO_11.1 BK2.1 (by decide)) e_) hs_));have n6_:=a0_ (blk_kept (bb_ BK17.1) hkp (fun hs_=>(fun e_=>(Kd.R_ne HO_11.1 BK17.1 (by decide)) e_) hs_));have n7_:=a0_ (blk_kept (bb_ BK21.1) hkp (fun hs_=>(fun e_=>(Kd.R_ne HO_11.1 BK21.1 (by decide)) e_) hs_));have n8_:=a0_ (hb);clear HO_8 HO_11;clear Z18 Z22;clear BK1 BK2;clear BK17 BK21 HB;have HO_8:=n0_;have HO_11:=n1_;have Z18:=n2_;have Z22:=n3_;have BK1:=n4_;have BK2:=n5_;have BK17:=n6_;have BK21:=n7_;have HB:=n8_;clear n0_ n1_ n2_ n3_ n4_ n5_ n6_ n7_ n8_;(try clear hb);(try clear hkp);(try clear hy0)) | ((with_reducible refine gate_callee (f:=32) rfl ?_);refine goesL_ (some 73) rfl rfl Try.func32 (by kernel_rfl) rfl #[.slice Ao67 t40.length co67,.int .i64 1] rfl (by (try simp only [List.map_toArray,List.map_cons,List.map_nil]);first | done | (rw [show t40.length = t22.length from (Kd.R_reads' HO_11.1).1.symm] <;> rfl) | rfl | (simp only [List.length_drop,List.length_take];rfl)) ?_;(with_reducible refine (laws_heldIntS.calls kj35 _ _ t40 1 t41 _ ?side1 ?side2 A85.1).mono ?_);(case side1=>exact cc_ (Kd.R_reads' HO_11.1).2.2);(case side2=>rw [show t40.length = t22.length from (Kd.R_reads' HO_11.1).1.symm];exact (Kd.R_reads' HO_11.1).2.1);rintro e w' ⟨rfl,⟨nd,rfl⟩⟩;refine ⟨_,rfl,?_⟩))
            (try (rw [drewN_self w121];generalize hq_ : World.drewN w121 _ = w121;have n0_ : Aside0 (Kd.R (Kd.int .i64) 3 w121 w.heap.size (fun k_=>some k_ ≠ (.slice Ao68 t11.length co68 : Value).ownBlock) (.slice Ao67 t22.length co67) t40):=⟨by rw [← hq_];exact (rr_ HO_11.1)⟩;have n1_ : Aside0 (Kd.R k106 106 w121 w.heap.size (fun k_=>True) (.slice Ao53 t35.length co53) t35):=⟨by rw [← hq_];exact (rr_ Z18.1)⟩;have n2_ : Aside0 (Kd.R k79 79 w121 w.heap.size (fun k_=>True) (.slice Ao60 t37.length co60) t37):=⟨by rw [← hq_];exact (rr_ Z22.1)⟩;have n3_ : Aside0 (Kd.R (Kd.int .i64) 3 w121 w.heap.size (fun k_=>some k_ ≠ (.slice Ao67 t22.length co67 : Value).ownBlock) (.slice Ao68 t11.length co68) t11):=⟨by rw [← hq_];exact (rr_ HO_8.1)⟩;have n4_ : Aside0 (w121.heap[gb1]? = some (.cells #[.slice A0_0 l0_0.length c0_0] 24 (0,0))):=⟨by rw [← hq_];exact (bb_ BK1.1)⟩;have n5_ : Aside0 (w121.heap[gb17]? = some (.cells #[.slice Ao53 t35.length co53] 33 (0,0))):=⟨by rw [← hq_];exact (bb_ BK17.1)⟩;have n6_ : Aside0 (w121.heap[gb2]? = some (.cells #[.slice A1_0 l1_0.length c1_0] 27 (0,0))):=⟨by rw [← hq_];exact (bb_ BK2.1)⟩;have n7_ : Aside0 (w121.heap[gb21]? = some (.cells #[.slice Ao60 t37.length co60] 37 (0,0))):=⟨by rw [← hq_];exact (bb_ BK21.1)⟩;have n8_ : Aside0 (Below w.heap.size w w121):=⟨by rw [← hq_];exact hb_⟩;clear HO_11 Z18 Z22 HO_8 BK1 BK17 BK2 BK21 HB hq_;have HO_11:=n0_;have Z18:=n1_;have Z22:=n2_;have HO_8:=n3_;have BK1:=n4_;have BK17:=n5_;have BK2:=n6_;have BK21:=n7_;have HB:=n8_;clear n0_ n1_ n2_ n3_ n4_ n5_ n6_ n7_ n8_))
            have n0_:=a0_ (Kd.R_drew HO_8.1)
            have n1_:=a0_ (Kd.R_drew HO_11.1)
            have n2_:=a0_ (Kd.R_drew Z18.1)
            have n3_:=a0_ (Kd.R_drew Z22.1)
            have n4_:=a0_ (blk_drew BK1.1)
            have n5_:=a0_ (blk_drew BK2.1)
            have n6_:=a0_ (blk_drew BK17.1)
            have n7_:=a0_ (blk_drew BK21.1)
            have n8_:=a0_ (below_drew1 HB.1)
            clear HO_8
            clear HO_11
            clear Z18
            clear Z22
            clear BK1
            clear BK2
            clear BK17
            clear BK21
            clear HB
            have HO_8:=n0_
            have HO_11:=n1_
            have Z18:=n2_
            have Z22:=n3_
            have BK1:=n4_
            have BK2:=n5_
            have BK17:=n6_
            have BK21:=n7_
            have HB:=n8_
            clear n0_ n1_ n2_ n3_ n4_ n5_ n6_ n7_ n8_
            refine start_ (n:=7) (S:=fun w'=>w'.cell? ⟨gb1,0,none⟩ = some (.slice A0_0 l0_0.length c0_0) ∧ w'.cell? ⟨gb2,0,none⟩ = some (.slice A1_0 l1_0.length c1_0)) (ds:=[]) #[false,false,false,false,false,false,false] (by kernel_rfl) rfl rfl ⟨(blk_cell BK1.1 0).trans rfl,(blk_cell BK2.1 0).trans rfl⟩ (fun hHeld=>?_)
            generalize w121.drew = w122 at HO_8 HO_11 Z18 Z22 BK1 BK2 BK17 BK21 HB hHeld ⊢
            refine pure_ (i:=4) (N:=some 83) (v:=?_) (a':=?_) #[false,false,false,false,true,false,false] rfl rfl (by kernel_rfl) (fun _ _ _ h=>h) (Or.inl ⟨by rfl,?_⟩) ?_ ?_
            rotate_left
            ·intro w'
             go_simp
             with_reducible rfl
            rotate_left
            ·simp only [Act.put,s1_,s2_,s3_,i64_w,i32_w]
             rfl
            refine take_ (i:=0) (N:=some 79) (v:=?_) (a':=?_) #[true,false,false,false,true,false,false] rfl rfl (by kernel_rfl) (fun _ _ _ h=>h) (Or.inl ⟨by rfl,?_⟩) hHeld ?_ ?_
            rotate_left
            ·rintro w' ⟨s0,s1⟩
             go_simp
             with_reducible rfl
            rotate_left
            ·simp only [Act.put,s1_,s2_,s3_,i64_w,i32_w]
             rfl
            refine take_ (i:=2) (N:=some 81) (v:=?_) (a':=?_) #[true,false,true,false,true,false,false] rfl rfl (by kernel_rfl) (fun _ _ _ h=>h) (Or.inl ⟨by rfl,?_⟩) hHeld ?_ ?_
            rotate_left
            ·rintro w' ⟨s0,s1⟩
             go_simp
             with_reducible rfl
            rotate_left
            ·simp only [Act.put,s1_,s2_,s3_,i64_w,i32_w]
             rfl
            refine one_ (i:=1) (N:=some 80) #[true,true,true,false,true,false,false] rfl rfl (by kernel_rfl) (by decide) (fun K hK=>?_)
            refine goes_ Try.func17 (by kernel_rfl) rfl #[.agg #[.slice A0_0 l0_0.length c0_0]] (by rfl) rfl rfl lm_ ?_
            with_reducible refine (laws_toTree.calls kj35 _ _ l0_0 t42 _ ?side1 ?side2 A89.1).mono ?_
            (case side1=>exact cc_ (Kd.C_below HR0_0.1 HB.1))
            (case side2=>exact HC0_0.1)
            rintro e w123 ⟨v43,rfl,ho0,hb⟩
            refine ⟨_,rfl,?_⟩
            have n0_:=rb_ HO_8 hb
            have n1_:=rb_ HO_11 hb
            have n2_:=a0_ (Kd.R_elder' (rr_ Z18.1) (Kd.R_base ho0) hb)
            have n3_:=rb_ Z22 hb
            have n4_:=a0_ (Kd.R_lower (Kd.R_new' ho0 (Kd.R_lt (rr_ Z18.1))) (below_size hb_))
            have n5_:=kb_ BK1 hb
            have n6_:=kb_ BK2 hb
            have n7_:=kb_ BK17 hb
            have n8_:=kb_ BK21 hb
            have n9_:=a0_ (below_step hb_ hb)
            clear HO_8
            clear HO_11
            clear Z18
            clear Z22
            clear BK1
            clear BK2
            clear BK17
            clear BK21
            clear HB
            have HO_8:=n0_
            have HO_11:=n1_
            have Z18:=n2_
            have Z22:=n3_
            have HO44:=n4_
            have BK1:=n5_
            have BK2:=n6_
            have BK17:=n7_
            have BK21:=n8_
            have HB:=n9_
            clear n0_ n1_ n2_ n3_ n4_ n5_ n6_ n7_ n8_ n9_
            (try clear hb)
            (try clear hb2)
            (try clear hk)
            (try clear hi)
            (try clear ho0)
            refine hK.out _ _ ⟨(blk_cell BK1.1 0).trans rfl,(blk_cell BK2.1 0).trans rfl⟩ (fun hHeld=>?_)
            clear hK K
            refine norm_ (a':=?_) ?_ ?_
            rotate_left
            ·show Act.put _ (some 80) _ = _
             simp only [Act.put,s1_,s2_,s3_,i64_w,i32_w]
             rfl
            refine one_ (i:=3) (N:=some 82) #[true,true,true,true,true,false,false] rfl rfl (by kernel_rfl) (by decide) (fun K hK=>?_)
            refine goes_ Try.func18 (by kernel_rfl) rfl #[.agg #[.slice A1_0 l1_0.length c1_0]] (by rfl) rfl rfl lm_ ?_
            with_reducible refine (laws_toHeap.calls kj35 _ _ l1_0 t45 _ ?side1 ?side2 A90.1).mono ?_
            (case side1=>exact cc_ (Kd.C_below HR1_0.1 HB.1))
            (case side2=>exact HC1_0.1)
            rintro e w124 ⟨v46,rfl,ho0,hb⟩
            refine ⟨_,rfl,?_⟩
            have n0_:=rb_ HO_8 hb
            have n1_:=rb_ HO_11 hb
            have n2_:=rb_ Z18 hb
            have n3_:=a0_ (Kd.R_elder' (rr_ Z22.1) (Kd.R_base ho0) hb)
            have n4_:=rb_ HO44 hb
            have n5_:=a0_ (Kd.R_lower (Kd.R_new' ho0 (Kd.R_lt (rr_ Z22.1))) (below_size hb_))
            have n6_:=kb_ BK1 hb
            have n7_:=kb_ BK2 hb
            have n8_:=kb_ BK17 hb
            have n9_:=kb_ BK21 hb
            have n10_:=a0_ (below_step hb_ hb)
            clear HO_8
            clear HO_11
            clear Z18
            clear Z22
            clear HO44
            clear BK1
            clear BK2
            clear BK17
            clear BK21
            clear HB
            have HO_8:=n0_
            have HO_11:=n1_
            have Z18:=n2_
            have Z22:=n3_
            have HO44:=n4_
            have HO47:=n5_
            have BK1:=n6_
            have BK2:=n7_
            have BK17:=n8_
            have BK21:=n9_
            have HB:=n10_
            clear n0_ n1_ n2_ n3_ n4_ n5_ n6_ n7_ n8_ n9_ n10_
            (try clear hb)
            (try clear hb2)
            (try clear hk)
            (try clear hi)
            (try clear ho0)
            obtain ⟨Ao125,co125,eo125⟩:=Kd.R_slice HO44.1
            (first | subst eo125 | (injection eo125 with f1_ f2_ f3_;have f4_:=f1_.symm;have f5_:=f3_.symm;clear f1_ f2_ f3_;subst f4_;subst f5_))
            obtain ⟨Ao126,co126,eo126⟩:=Kd.R_slice HO47.1
            (first | subst eo126 | (injection eo126 with f1_ f2_ f3_;have f4_:=f1_.symm;have f5_:=f3_.symm;clear f1_ f2_ f3_;subst f4_;subst f5_))
            refine hK.out _ _ ⟨(blk_cell BK1.1 0).trans rfl,(blk_cell BK2.1 0).trans rfl⟩ (fun hHeld=>?_)
            clear hK K
            refine norm_ (a':=?_) ?_ ?_
            rotate_left
            ·show Act.put _ (some 82) _ = _
             simp only [Act.put,s1_,s2_,s3_,i64_w,i32_w]
             rfl
            refine one_ (i:=5) (N:=some 84) #[true,true,true,true,true,true,false] rfl rfl (by kernel_rfl) (by decide) (fun K hK=>?_)
            refine goes_ Try.func34 (by kernel_rfl) rfl #[.agg #[.slice Ao125 t42.length co125],.agg #[.slice Ao126 t45.length co126],.int .i64 a2] (by rfl) rfl rfl lm_ ?_
            with_reducible refine (impl_ContextChain.calls _ _ t42 _ _ t45 a2 t48 _ ?side1 ?side2 ?side3 ?side4 A91.1).mono ?_
            (case side1=>exact cc_ (Kd.R_reads' HO44.1).2.2)
            (case side2=>exact (Kd.R_reads' HO44.1).2.1)
            (case side3=>exact cc_ (Kd.R_reads' HO47.1).2.2)
            (case side4=>exact (Kd.R_reads' HO47.1).2.1)
            rintro e w127 ⟨v49,rfl,ho0,hb⟩
            refine ⟨_,rfl,?_⟩
            have n0_:=a0_ (Kd.R_elder' (rr_ HO_8.1) (Kd.R_base ho0) hb)
            have n1_:=a0_ (Kd.R_elder' (rr_ HO_11.1) (Kd.R_base ho0) hb)
            have n2_:=rb_ Z18 hb
            have n3_:=rb_ Z22 hb
            have n4_:=rb_ HO44 hb
            have n5_:=rb_ HO47 hb
            have n6_:=a0_ (Kd.R_lower (Kd.R_new' (Kd.R_new' ho0 (Kd.R_lt (rr_ HO_8.1))) (Kd.R_lt (rr_ HO_11.1))) (below_size hb_))
            have n7_:=kb_ BK1 hb
            have n8_:=kb_ BK2 hb
            have n9_:=kb_ BK17 hb
            have n10_:=kb_ BK21 hb
            have n11_:=a0_ (below_step hb_ hb)
            clear HO_8
            clear HO_11
            clear Z18
            clear Z22
            clear HO44
            clear HO47
            clear BK1
            clear BK2
            clear BK17
            clear BK21
            clear HB
            have HO_8:=n0_
            have HO_11:=n1_
            have Z18:=n2_
            have Z22:=n3_
            have HO44:=n4_
            have HO47:=n5_
            have HO50:=n6_
            have BK1:=n7_
            have BK2:=n8_
            have BK17:=n9_
            have BK21:=n10_
            have HB:=n11_
            clear n0_ n1_ n2_ n3_ n4_ n5_ n6_ n7_ n8_ n9_ n10_ n11_
            (try clear hb)
            (try clear hb2)
            (try clear hk)
            (try clear hi)
            (try clear ho0)
            refine hK.out _ _ ⟨(blk_cell BK1.1 0).trans rfl,(blk_cell BK2.1 0).trans rfl⟩ (fun hHeld=>?_)
            clear hK K
            refine norm_ (a':=?_) ?_ ?_
            rotate_left
            ·show Act.put _ (some 84) _ = _
             simp only [Act.put,s1_,s2_,s3_,i64_w,i32_w]
             rfl
            refine pure_ (i:=6) (N:=some 15) (v:=?_) (a':=?_) #[true,true,true,true,true,true,true] rfl rfl (by kernel_rfl) (fun _ _ _ h=>h) (Or.inl ⟨by rfl,?_⟩) ?_ ?_
            rotate_left
            ·intro w'
             go_simp
             with_reducible rfl
            rotate_left
            ·simp only [Act.put,s1_,s2_,s3_,i64_w,i32_w]
             rfl
            refine done_ (by kernel_rfl) ?_
            obtain ⟨Ao128,co128,eo128⟩:=Kd.R_slice HO50.1
            subst eo128
            try go_wp2_with (first | ((with_reducible refine gate_callee (f:=28) rfl ?_);refine goesL_ (some 87) rfl rfl Try.func28 (by kernel_rfl) rfl #[.slice Ao128 t48.length co128,.slice Ao68 t11.length co68] rfl lm_ ?_;(with_reducible refine (laws_eqIntS.calls kj35 _ _ t48 _ _ t11 false _ ?side1 ?side2 ?side3 ?side4 A92.1).mono ?_);(case side1=>exact cc_ (Kd.R_reads' HO50.1).2.2);(case side2=>exact (Kd.R_reads' HO50.1).2.1);(case side3=>exact cc_ (Kd.R_reads' HO_8.1).2.2);(case side4=>exact (Kd.R_reads' HO_8.1).2.1);rintro e w' ⟨rfl,⟨nd,rfl⟩⟩;refine ⟨_,rfl,?_⟩))
            go_ret
            exact ⟨by first | rfl | (simp [errW_none,errW_some] <;> rfl) | (simp [*,errW_none,errW_some] <;> rfl),hb_⟩
          ·rw [if_neg c88] at H
           have c88b0 : (t41 == t39) = false:=beq_eq_false_iff_ne.mpr c88
           have c88b1 : (t41 != t39) = true:=bne_iff_ne.mpr c88
           obtain rfl:=Option.some.inj H
           go_wp2_with (first | ((with_reducible refine gate_callee (f:=31) rfl ?_);refine goesL_ (some 70) rfl rfl Try.func31 (by kernel_rfl) rfl #[.slice Ao67 t22.length co67,.int .i64 1] rfl lm_ ?_;(with_reducible refine (laws_markIntS.calls kj35 (fun k_=>some k_ = (.slice Ao67 t22.length co67 : Value).ownBlock) (.slice Ao67 t22.length co67) t22 1 t39 t40 w _ ?side1 ?side2 A84.1).mono ?_);(case side1=>exact hb_);(case side2=>exact Kd.R_tight rfl HO_11.1);rintro e w129 ⟨rfl,hy0,hb,hkp⟩;refine ⟨_,rfl,?_⟩;have n0_:=a0_ (Kd.R_mono (ok':=fun k_=>some k_ ≠ (.slice Ao67 t22.length co67 : Value).ownBlock) (Kd.R_keptB (HO_8.1) hkp (fun k_ hk_ hs_=>(hk_) hs_)) (fun k_ hk_=>hk_.1));have n1_:=a0_ (Kd.R_reok rfl hy0 (fun k_ e_=>HO_11.1.1 k_ e_));have n2_:=a0_ (Kd.R_mono (ok':=fun k_=>True) (Kd.R_keptB ((Kd.R_apart' Z18.1 (Kd.R_typed HO_11.1) (by decide))) hkp (fun k_ hk_ hs_=>(hk_.2) hs_)) (fun k_ hk_=>trivial));have n3_:=a0_ (Kd.R_mono (ok':=fun k_=>True) (Kd.R_keptB ((Kd.R_apart' Z22.1 (Kd.R_typed HO_11.1) (by decide))) hkp (fun k_ hk_ hs_=>(hk_.2) hs_)) (fun k_ hk_=>trivial));have n4_:=a0_ (blk_kept (bb_ BK1.1) hkp (fun hs_=>(fun e_=>(Kd.R_ne HO_11.1 BK1.1 (by decide)) e_) hs_));have n5_:=a0_ (blk_kept (bb_ BK2.1) hkp (fun hs_=>(fun e_=>(Kd.R_ne HO_11.1 BK2.1 (by decide)) e_) hs_));have n6_:=a0_ (blk_kept (bb_ BK17.1) hkp (fun hs_=>(fun e_=>(Kd.R_ne HO_11.1 BK17.1 (by decide)) e_) hs_));have n7_:=a0_ (blk_kept (bb_ BK21.1) hkp (fun hs_=>(fun e_=>(Kd.R_ne HO_11.1 BK21.1 (by decide)) e_) hs_));have n8_:=a0_ (hb);clear HO_8 HO_11;clear Z18 Z22;clear BK1 BK2;clear BK17 BK21 HB;have HO_8:=n0_;have HO_11:=n1_;have Z18:=n2_;have Z22:=n3_;have BK1:=n4_;have BK2:=n5_;have BK17:=n6_;have BK21:=n7_;have HB:=n8_;clear n0_ n1_ n2_ n3_ n4_ n5_ n6_ n7_ n8_;(try clear hb);(try clear hkp);(try clear hy0)) | ((with_reducible refine gate_callee (f:=32) rfl ?_);refine goesL_ (some 73) rfl rfl Try.func32 (by kernel_rfl) rfl #[.slice Ao67 t40.length co67,.int .i64 1] rfl (by (try simp only [List.map_toArray,List.map_cons,List.map_nil]);first | done | (rw [show t40.length = t22.length from (Kd.R_reads' HO_11.1).1.symm] <;> rfl) | rfl | (simp only [List.length_drop,List.length_take];rfl)) ?_;(with_reducible refine (laws_heldIntS.calls kj35 _ _ t40 1 t41 _ ?side1 ?side2 A85.1).mono ?_);(case side1=>exact cc_ (Kd.R_reads' HO_11.1).2.2);(case side2=>rw [show t40.length = t22.length from (Kd.R_reads' HO_11.1).1.symm];exact (Kd.R_reads' HO_11.1).2.1);rintro e w' ⟨rfl,⟨nd,rfl⟩⟩;refine ⟨_,rfl,?_⟩))
           go_ret
           exact ⟨by first | rfl | (simp [errW_none,errW_some] <;> rfl) | (simp [*,errW_none,errW_some] <;> rfl),hb_⟩
     ·replace c33:=Bool.eq_false_iff.mpr c33
      subst c33
      have H1 : (some false) = some r:=by rw [if_neg (show ¬ (false = true) by decide)] at H;exact H
      clear H
      have H:=H1
      clear H1
      obtain rfl:=Option.some.inj H
      go_enter Try.func7,Try.ntmps7
      try go_wp2_with (first | ((with_reducible refine gate_dst (N:=3) rfl ?_);refine box_event ?hg (N:=3) ?hd (cs:=#[.slice A0_0 l0_0.length c0_0]) (t:=24) ?hr ?_;(case hd=>rfl);(case hg=>rfl);(case hr=>first | (go_simp;done) | (go_simp;rfl));intro gb1 hg w130 hbox hb;have BK1:=a0_ (hbox);have GW1:=a0_ ((by rw [hg];exact (below_size hb_) : w.heap.size ≤ gb1));have GE1:=a0_ ((by rw [hg];exact (below_size hb_) : w.heap.size ≤ gb1));replace HB:=a0_ (below_step hb_ hb);clear hb hbox hg) | ((with_reducible refine gate_dst (N:=4) rfl ?_);refine box_event ?hg (N:=4) ?hd (cs:=#[.slice A1_0 l1_0.length c1_0]) (t:=27) ?hr ?_;(case hd=>rfl);(case hg=>rfl);(case hr=>first | (go_simp;done) | (go_simp;rfl));intro gb2 hg w131 hbox hb;have n0_:=kb_ BK1 hb;have n1_:=a0_ (below_step hb_ hb);have n2_:=a0_ (hbox);have n3_:=a0_ ((by rw [hg];exact (below_size hb_) : w.heap.size ≤ gb2));have n4_:=a0_ ((by rw [hg];exact (below_size hb_) : w.heap.size ≤ gb2));have n5_:=a0_ ((by rw [hg];exact Nat.ne_of_lt (blk_lt (bb_ BK1.1)) : gb1 ≠ gb2));have n6_:=a0_ ((by rw [hg];exact Nat.ne_of_gt (blk_lt (bb_ BK1.1)) : gb2 ≠ gb1));clear BK1 HB;have BK1:=n0_;have HB:=n1_;have BK2:=n2_;have GW2:=n3_;have GE2:=n4_;have NB1_2:=n5_;have NB2_1:=n6_;clear n0_ n1_ n2_ n3_ n4_ n5_ n6_;clear hb hbox hg;have hnb132:=NB1_2.1;have hnc132:=NB2_1.1;have hcz133_0 : w131.cell? ⟨gb1,0,none⟩ = some (.slice A0_0 l0_0.length c0_0):=(blk_cell BK1.1 0).trans rfl;have hfz133_0:=blk_frozen BK1.1 0) | ((with_reducible refine gate_callee (f:=14) rfl ?_);refine goesL_ (some 18) rfl rfl Try.func14 (by kernel_rfl) rfl #[.agg #[.slice A0_0 l0_0.length c0_0],.int .i64 1048576] rfl lm_ ?_;(with_reducible refine (laws_szTree.calls k _ _ l0_0 1048576 t3 _ ?side1 ?side2 A4.1).mono ?_);(case side1=>exact cc_ (Kd.C_below HR0_0.1 HB.1));(case side2=>exact HC0_0.1);rintro e w134 ⟨rfl,hb⟩;refine ⟨_,rfl,?_⟩;replace BK1:=kb_ BK1 hb;replace BK2:=kb_ BK2 hb;replace HB:=a0_ (below_step hb_ hb);(try clear hb);have hcz135_0 : w134.cell? ⟨gb2,0,none⟩ = some (.slice A1_0 l1_0.length c1_0):=(blk_cell BK2.1 0).trans rfl;have hfz135_0:=blk_frozen BK2.1 0) | ((with_reducible refine gate_callee (f:=15) rfl ?_);refine goesL_ (some 23) rfl rfl Try.func15 (by kernel_rfl) rfl #[.agg #[.slice A1_0 l1_0.length c1_0],.int .i64 t3] rfl lm_ ?_;(with_reducible refine (laws_szHeap.calls _ _ l1_0 t3 t4 _ ?side1 ?side2 A11.1).mono ?_);(case side1=>exact cc_ (Kd.C_below HR1_0.1 HB.1));(case side2=>exact HC1_0.1);rintro e w136 ⟨rfl,hb⟩;refine ⟨_,rfl,?_⟩;replace BK1:=kb_ BK1 hb;replace BK2:=kb_ BK2 hb;replace HB:=a0_ (below_step hb_ hb);(try clear hb);(try clear hb2);(try clear hk);(try clear hi)))
      have n0_:=a0_ (blk_drew BK1.1)
      have n1_:=a0_ (blk_drew BK2.1)
      have n2_:=a0_ (below_drew1 HB.1)
      clear BK1
      clear BK2
      clear HB
      have BK1:=n0_
      have BK2:=n1_
      have HB:=n2_
      clear n0_ n1_ n2_
      refine start_ (n:=7) (S:=fun w'=>w'.cell? ⟨gb1,0,none⟩ = some (.slice A0_0 l0_0.length c0_0) ∧ w'.cell? ⟨gb2,0,none⟩ = some (.slice A1_0 l1_0.length c1_0)) (ds:=[]) #[false,false,false,false,false,false,false] (by kernel_rfl) rfl rfl ⟨(blk_cell BK1.1 0).trans rfl,(blk_cell BK2.1 0).trans rfl⟩ (fun hHeld=>?_)
      generalize w136.drew = w137 at BK1 BK2 HB hHeld ⊢
      refine pure_ (i:=4) (N:=some 30) (v:=?_) (a':=?_) #[false,false,false,false,true,false,false] rfl rfl (by kernel_rfl) (fun _ _ _ h=>h) (Or.inl ⟨by rfl,?_⟩) ?_ ?_
      rotate_left
      ·intro w'
       go_simp
       with_reducible rfl
      rotate_left
      ·simp only [Act.put,s1_,s2_,s3_,i64_w,i32_w]
       rfl
      refine take_ (i:=0) (N:=some 26) (v:=?_) (a':=?_) #[true,false,false,false,true,false,false] rfl rfl (by kernel_rfl) (fun _ _ _ h=>h) (Or.inl ⟨by rfl,?_⟩) hHeld ?_ ?_
      rotate_left
      ·rintro w' ⟨s0,s1⟩
       go_simp
       with_reducible rfl
      rotate_left
      ·simp only [Act.put,s1_,s2_,s3_,i64_w,i32_w]
       rfl
      refine take_ (i:=2) (N:=some 28) (v:=?_) (a':=?_) #[true,false,true,false,true,false,false] rfl rfl (by kernel_rfl) (fun _ _ _ h=>h) (Or.inl ⟨by rfl,?_⟩) hHeld ?_ ?_
      rotate_left
      ·rintro w' ⟨s0,s1⟩
       go_simp
       with_reducible rfl
      rotate_left
      ·simp only [Act.put,s1_,s2_,s3_,i64_w,i32_w]
       rfl
      refine one_ (i:=1) (N:=some 27) #[true,true,true,false,true,false,false] rfl rfl (by kernel_rfl) (by decide) (fun K hK=>?_)
      refine goes_ Try.func17 (by kernel_rfl) rfl #[.agg #[.slice A0_0 l0_0.length c0_0]] (by rfl) rfl rfl lm_ ?_
      with_reducible refine (laws_toTree.calls k _ _ l0_0 t5 _ ?side1 ?side2 A20.1).mono ?_
      (case side1=>exact cc_ (Kd.C_below HR0_0.1 HB.1))
      (case side2=>exact HC0_0.1)
      rintro e w138 ⟨v6,rfl,ho0,hb⟩
      refine ⟨_,rfl,?_⟩
      have n0_:=a0_ (Kd.R_lower ho0 (below_size hb_))
      have n1_:=kb_ BK1 hb
      have n2_:=kb_ BK2 hb
      have n3_:=a0_ (below_step hb_ hb)
      clear BK1
      clear BK2
      clear HB
      have HO7:=n0_
      have BK1:=n1_
      have BK2:=n2_
      have HB:=n3_
      clear n0_ n1_ n2_ n3_
      (try clear hb)
      (try clear hb2)
      (try clear hk)
      (try clear hi)
      (try clear ho0)
      refine hK.out _ _ ⟨(blk_cell BK1.1 0).trans rfl,(blk_cell BK2.1 0).trans rfl⟩ (fun hHeld=>?_)
      clear hK K
      refine norm_ (a':=?_) ?_ ?_
      rotate_left
      ·show Act.put _ (some 27) _ = _
       simp only [Act.put,s1_,s2_,s3_,i64_w,i32_w]
       rfl
      refine one_ (i:=3) (N:=some 29) #[true,true,true,true,true,false,false] rfl rfl (by kernel_rfl) (by decide) (fun K hK=>?_)
      refine goes_ Try.func18 (by kernel_rfl) rfl #[.agg #[.slice A1_0 l1_0.length c1_0]] (by rfl) rfl rfl lm_ ?_
      with_reducible refine (laws_toHeap.calls k _ _ l1_0 t8 _ ?side1 ?side2 A21.1).mono ?_
      (case side1=>exact cc_ (Kd.C_below HR1_0.1 HB.1))
      (case side2=>exact HC1_0.1)
      rintro e w139 ⟨v9,rfl,ho0,hb⟩
      refine ⟨_,rfl,?_⟩
      have n0_:=rb_ HO7 hb
      have n1_:=a0_ (Kd.R_lower ho0 (below_size hb_))
      have n2_:=kb_ BK1 hb
      have n3_:=kb_ BK2 hb
      have n4_:=a0_ (below_step hb_ hb)
      clear HO7
      clear BK1
      clear BK2
      clear HB
      have HO7:=n0_
      have HO10:=n1_
      have BK1:=n2_
      have BK2:=n3_
      have HB:=n4_
      clear n0_ n1_ n2_ n3_ n4_
      (try clear hb)
      (try clear hb2)
      (try clear hk)
      (try clear hi)
      (try clear ho0)
      obtain ⟨Ao140,co140,eo140⟩:=Kd.R_slice HO7.1
      (first | subst eo140 | (injection eo140 with f1_ f2_ f3_;have f4_:=f1_.symm;have f5_:=f3_.symm;clear f1_ f2_ f3_;subst f4_;subst f5_))
      obtain ⟨Ao141,co141,eo141⟩:=Kd.R_slice HO10.1
      (first | subst eo141 | (injection eo141 with f1_ f2_ f3_;have f4_:=f1_.symm;have f5_:=f3_.symm;clear f1_ f2_ f3_;subst f4_;subst f5_))
      refine hK.out _ _ ⟨(blk_cell BK1.1 0).trans rfl,(blk_cell BK2.1 0).trans rfl⟩ (fun hHeld=>?_)
      clear hK K
      refine norm_ (a':=?_) ?_ ?_
      rotate_left
      ·show Act.put _ (some 29) _ = _
       simp only [Act.put,s1_,s2_,s3_,i64_w,i32_w]
       rfl
      refine one_ (i:=5) (N:=some 31) #[true,true,true,true,true,true,false] rfl rfl (by kernel_rfl) (by decide) (fun K hK=>?_)
      refine goes_ Try.func33 (by kernel_rfl) rfl #[.agg #[.slice Ao140 t5.length co140],.agg #[.slice Ao141 t8.length co141],.int .i64 a2] (by rfl) rfl rfl lm_ ?_
      with_reducible refine (spec_ContextChain.calls k _ _ t5 _ _ t8 a2 t11 _ ?side1 ?side2 ?side3 ?side4 A22.1).mono ?_
      (case side1=>exact cc_ (Kd.R_reads' HO7.1).2.2)
      (case side2=>exact (Kd.R_reads' HO7.1).2.1)
      (case side3=>exact cc_ (Kd.R_reads' HO10.1).2.2)
      (case side4=>exact (Kd.R_reads' HO10.1).2.1)
      rintro e w142 ⟨v12,rfl,ho0,hb⟩
      refine ⟨_,rfl,?_⟩
      have n0_:=rb_ HO7 hb
      have n1_:=rb_ HO10 hb
      have n2_:=a0_ (Kd.R_lower ho0 (below_size hb_))
      have n3_:=kb_ BK1 hb
      have n4_:=kb_ BK2 hb
      have n5_:=a0_ (below_step hb_ hb)
      clear HO7
      clear HO10
      clear BK1
      clear BK2
      clear HB
      have HO7:=n0_
      have HO10:=n1_
      have HO13:=n2_
      have BK1:=n3_
      have BK2:=n4_
      have HB:=n5_
      clear n0_ n1_ n2_ n3_ n4_ n5_
      (try clear hb)
      (try clear hb2)
      (try clear hk)
      (try clear hi)
      (try clear ho0)
      refine hK.out _ _ ⟨(blk_cell BK1.1 0).trans rfl,(blk_cell BK2.1 0).trans rfl⟩ (fun hHeld=>?_)
      clear hK K
      refine norm_ (a':=?_) ?_ ?_
      rotate_left
      ·show Act.put _ (some 31) _ = _
       simp only [Act.put,s1_,s2_,s3_,i64_w,i32_w]
       rfl
      refine pure_ (i:=6) (N:=some 8) (v:=?_) (a':=?_) #[true,true,true,true,true,true,true] rfl rfl (by kernel_rfl) (fun _ _ _ h=>h) (Or.inl ⟨by rfl,?_⟩) ?_ ?_
      rotate_left
      ·intro w'
       go_simp
       with_reducible rfl
      rotate_left
      ·simp only [Act.put,s1_,s2_,s3_,i64_w,i32_w]
       rfl
      refine done_ (by kernel_rfl) ?_
      have hcz143_0 : w142.cell? ⟨gb1,0,none⟩ = some (.slice A0_0 l0_0.length c0_0):=(blk_cell BK1.1 0).trans rfl
      have hfz143_0:=blk_frozen BK1.1 0
      try go_wp2_with (first | ((with_reducible refine gate_callee (f:=17) rfl ?_);refine goesL_ (some 33) rfl rfl Try.func17 (by kernel_rfl) rfl #[.agg #[.slice A0_0 l0_0.length c0_0]] rfl lm_ ?_;(with_reducible refine (laws_toTree.calls k _ _ l0_0 t14 _ ?side1 ?side2 A23.1).mono ?_);(case side1=>exact cc_ (Kd.C_below HR0_0.1 HB.1));(case side2=>exact HC0_0.1);rintro e w144 ⟨v15,rfl,ho0,hb⟩;refine ⟨_,rfl,?_⟩;have n0_:=a0_ (Kd.R_elder' (rr_ HO7.1) (Kd.R_base ho0) hb);have n1_:=rb_ HO10 hb;have n2_:=rb_ HO13 hb;have n3_:=a0_ (Kd.R_lower (Kd.R_new' ho0 (Kd.R_lt (rr_ HO7.1))) (below_size hb_));have n4_:=kb_ BK1 hb;have n5_:=kb_ BK2 hb;have n6_:=a0_ (below_step hb_ hb);clear HO7 HO10;clear HO13 BK1;clear BK2 HB;have HO7:=n0_;have HO10:=n1_;have HO13:=n2_;have HO16:=n3_;have BK1:=n4_;have BK2:=n5_;have HB:=n6_;clear n0_ n1_ n2_ n3_ n4_ n5_ n6_;(try clear hb);(try clear ho0)) | ((with_reducible refine gate_dst (N:=9) rfl ?_);refine box_event ?hg (N:=9) ?hd (cs:=#[.slice none 0 0]) (t:=33) ?hr ?_;(case hd=>rfl);(case hg=>rfl);(case hr=>first | (go_simp;done) | (go_simp;rfl));intro gb17 hg w145 hbox hb;have n0_:=rb_ HO7 hb;have n1_:=rb_ HO10 hb;have n2_:=rb_ HO13 hb;have n3_:=rb_ HO16 hb;have n4_:=kb_ BK1 hb;have n5_:=kb_ BK2 hb;have n6_:=a0_ (below_step hb_ hb);have n7_:=a0_ (hbox);have n8_:=a0_ ((by rw [hg];exact (below_size hb_) : w.heap.size ≤ gb17));have n9_:=a0_ ((by rw [hg];exact (below_size hb_) : w.heap.size ≤ gb17));have n10_:=a0_ ((by rw [hg];exact Nat.ne_of_lt (blk_lt (bb_ BK1.1)) : gb1 ≠ gb17));have n11_:=a0_ ((by rw [hg];exact Nat.ne_of_gt (blk_lt (bb_ BK1.1)) : gb17 ≠ gb1));have n12_:=a0_ ((by rw [hg];exact Nat.ne_of_lt (blk_lt (bb_ BK2.1)) : gb2 ≠ gb17));have n13_:=a0_ ((by rw [hg];exact Nat.ne_of_gt (blk_lt (bb_ BK2.1)) : gb17 ≠ gb2));clear HO7 HO10;clear HO13 HO16;clear BK1 BK2 HB;have HO7:=n0_;have HO10:=n1_;have HO13:=n2_;have HO16:=n3_;have BK1:=n4_;have BK2:=n5_;have HB:=n6_;have BK17:=n7_;have GW17:=n8_;have GE17:=n9_;have NB1_17:=n10_;have NB17_1:=n11_;have NB2_17:=n12_;have NB17_2:=n13_;clear n0_ n1_ n2_ n3_ n4_ n5_ n6_ n7_ n8_ n9_ n10_ n11_ n12_ n13_;clear hb hbox hg;obtain ⟨Ao146,co146,eo146⟩:=Kd.R_slice HO16.1;subst eo146;have hnb147:=NB17_1.1;have hnc147:=NB1_17.1;have hnb148:=NB17_2.1;have hnc148:=NB2_17.1;have hcz149_0 : w145.cell? ⟨gb17,0,none⟩ = some (.slice none 0 0):=(blk_cell BK17.1 0).trans rfl;have hfz149_0:=blk_frozen BK17.1 0;have hcz150_0 : w145.cell? ⟨gb2,0,none⟩ = some (.slice A1_0 l1_0.length c1_0):=(blk_cell BK2.1 0).trans rfl;have hfz150_0:=blk_frozen BK2.1 0) | ((with_reducible refine gate_callee (f:=18) rfl ?_);refine goesL_ (some 35) rfl rfl Try.func18 (by kernel_rfl) rfl #[.agg #[.slice A1_0 l1_0.length c1_0]] rfl lm_ ?_;(with_reducible refine (laws_toHeap.calls k _ _ l1_0 t18 _ ?side1 ?side2 A24.1).mono ?_);(case side1=>exact Kd.C_below HR1_0.1 hb_);(case side2=>exact HC1_0.1);rintro e w151 ⟨v19,rfl,ho0,hb⟩;refine ⟨_,rfl,?_⟩;have n0_:=a0_ (Kd.R_below (by (with_reducible repeat (first | apply Kd.R_alloc | apply Kd.R_drewN | apply Kd.R_drew));exact (Kd.R_mono (Kd.R_far (p:=⟨gb17,0,none⟩) (Kd.R_types HO7.1 BK17.1 (by decide)) (fun _ hk=>hk.2) (.slice Ao146 t14.length co146)) (fun _ h_=>h_.1))) hb);have n1_:=a0_ (Kd.R_elder' (by (with_reducible repeat (first | apply Kd.R_alloc | apply Kd.R_drewN | apply Kd.R_drew));exact (Kd.R_mono (Kd.R_far (p:=⟨gb17,0,none⟩) (Kd.R_types HO10.1 BK17.1 (by decide)) (fun _ hk=>hk.2) (.slice Ao146 t14.length co146)) (fun _ h_=>h_.1))) (Kd.R_base ho0) hb);have n2_:=a0_ (Kd.R_below (by (with_reducible repeat (first | apply Kd.R_alloc | apply Kd.R_drewN | apply Kd.R_drew));exact (Kd.R_mono (Kd.R_far (p:=⟨gb17,0,none⟩) (Kd.R_types HO13.1 BK17.1 (by decide)) (fun _ hk=>hk.2) (.slice Ao146 t14.length co146)) (fun _ h_=>h_.1))) hb);have n3_:=a0_ (Kd.R_below (by (with_reducible repeat (first | apply Kd.R_alloc | apply Kd.R_drewN | apply Kd.R_drew));exact (Kd.R_mono (Kd.R_far (p:=⟨gb17,0,none⟩) (Kd.R_types HO16.1 BK17.1 (by decide)) (fun _ hk=>hk.2) (.slice Ao146 t14.length co146)) (fun _ h_=>h_.1))) hb);have n4_:=a0_ (Kd.R_lower (Kd.R_new' ho0 (Kd.R_lt (by (with_reducible repeat (first | apply Kd.R_alloc | apply Kd.R_drewN | apply Kd.R_drew));exact (Kd.R_mono (Kd.R_far (p:=⟨gb17,0,none⟩) (Kd.R_types HO10.1 BK17.1 (by decide)) (fun _ hk=>hk.2) (.slice Ao146 t14.length co146)) (fun _ h_=>h_.1))))) (below_size hb_));have n5_:=kf_ BK1 NB1_17 hb;have n6_:=kf_ BK2 NB2_17 hb;have n7_:=a0_ (blk_below (g:=gb17) (o:=.cells #[.slice Ao146 t14.length co146] 33 (0,0)) (by (with_reducible repeat (first | refine blk_drewN ?_ _ | refine blk_drew ?_ | refine blk_alloc ?_ _));refine blk_put (cs:=#[.slice none 0 0]) ?_ 0 _ rfl;(with_reducible repeat (first | refine blk_drewN ?_ _ | refine blk_drew ?_ | refine blk_alloc ?_ _));exact BK17.1) hb);have n8_:=a0_ (below_step hb_ hb);clear HO7 HO10;clear HO13 HO16;clear BK1 BK2;clear BK17 HB;have HO7:=n0_;have HO10:=n1_;have HO13:=n2_;have HO16:=n3_;have HO20:=n4_;have BK1:=n5_;have BK2:=n6_;have BK17:=n7_;have HB:=n8_;clear n0_ n1_ n2_ n3_ n4_ n5_ n6_ n7_ n8_;(try clear hb);(try clear ho0)) | ((with_reducible refine gate_dst (N:=10) rfl ?_);refine box_event ?hg (N:=10) ?hd (cs:=#[.slice none 0 0]) (t:=37) ?hr ?_;(case hd=>rfl);(case hg=>rfl);(case hr=>first | (go_simp;done) | (go_simp;rfl));intro gb21 hg w152 hbox hb;have n0_:=rb_ HO7 hb;have n1_:=rb_ HO10 hb;have n2_:=rb_ HO13 hb;have n3_:=rb_ HO16 hb;have n4_:=rb_ HO20 hb;have n5_:=kb_ BK1 hb;have n6_:=kb_ BK2 hb;have n7_:=kb_ BK17 hb;have n8_:=a0_ (below_step hb_ hb);have n9_:=a0_ (hbox);have n10_:=a0_ ((by rw [hg];exact (below_size hb_) : w.heap.size ≤ gb21));have n11_:=a0_ ((by rw [hg];exact (below_size hb_) : w.heap.size ≤ gb21));have n12_:=a0_ ((by rw [hg];exact Nat.ne_of_lt (blk_lt (bb_ BK1.1)) : gb1 ≠ gb21));have n13_:=a0_ ((by rw [hg];exact Nat.ne_of_gt (blk_lt (bb_ BK1.1)) : gb21 ≠ gb1));have n14_:=a0_ ((by rw [hg];exact Nat.ne_of_lt (blk_lt (bb_ BK2.1)) : gb2 ≠ gb21));have n15_:=a0_ ((by rw [hg];exact Nat.ne_of_gt (blk_lt (bb_ BK2.1)) : gb21 ≠ gb2));have n16_:=a0_ ((by rw [hg];exact Nat.ne_of_lt (blk_lt (bb_ BK17.1)) : gb17 ≠ gb21));have n17_:=a0_ ((by rw [hg];exact Nat.ne_of_gt (blk_lt (bb_ BK17.1)) : gb21 ≠ gb17));clear HO7 HO10;clear HO13 HO16;clear HO20 BK1;clear BK2 BK17 HB;have HO7:=n0_;have HO10:=n1_;have HO13:=n2_;have HO16:=n3_;have HO20:=n4_;have BK1:=n5_;have BK2:=n6_;have BK17:=n7_;have HB:=n8_;have BK21:=n9_;have GW21:=n10_;have GE21:=n11_;have NB1_21:=n12_;have NB21_1:=n13_;have NB2_21:=n14_;have NB21_2:=n15_;have NB17_21:=n16_;have NB21_17:=n17_;clear n0_ n1_ n2_ n3_ n4_ n5_ n6_ n7_ n8_ n9_ n10_ n11_ n12_ n13_ n14_ n15_ n16_ n17_;clear hb hbox hg;obtain ⟨Ao153,co153,eo153⟩:=Kd.R_slice HO20.1;subst eo153;have hnb154:=NB21_1.1;have hnc154:=NB1_21.1;have hnb155:=NB21_2.1;have hnc155:=NB2_21.1;have hnb156:=NB21_17.1;have hnc156:=NB17_21.1;have hcz157_0 : w152.cell? ⟨gb21,0,none⟩ = some (.slice none 0 0):=(blk_cell BK21.1 0).trans rfl;have hfz157_0:=blk_frozen BK21.1 0;have hcz158_0 : w152.cell? ⟨gb17,0,none⟩ = some (.slice Ao146 t14.length co146):=(blk_cell BK17.1 0).trans rfl;have hfz158_0:=blk_frozen BK17.1 0) | ((with_reducible refine gate_callee (f:=34) rfl ?_);refine goesL_ (some 39) rfl rfl Try.func34 (by kernel_rfl) rfl #[.agg #[.slice Ao146 t14.length co146],.agg #[.slice Ao153 t18.length co153],.int .i64 a2] rfl lm_ ?_;(with_reducible refine (impl_ContextChain.calls _ _ t14 _ _ t18 a2 t22 _ ?side1 ?side2 ?side3 ?side4 A25.1).mono ?_);(case side1=>refine (Kd.R_reads' (e:=106) (base:=w.heap.size) (ok:=fun k_=>(True ∧ some k_ ≠ (.slice Ao140 t5.length co140 : Value).ownBlock)) (n:=t14.length) (c:=co146) ?_).2.2;exact (by (with_reducible repeat (first | apply Kd.R_alloc | apply Kd.R_drewN | apply Kd.R_drew));exact (Kd.R_mono (Kd.R_far (p:=⟨gb21,0,none⟩) (Kd.R_types HO16.1 BK21.1 (by decide)) (fun _ hk=>hk.2) (.slice Ao153 t18.length co153)) (fun _ h_=>h_.1))));(case side2=>exact (Kd.R_reads' HO16.1).2.1);(case side3=>refine (Kd.R_reads' (e:=79) (base:=w.heap.size) (ok:=fun k_=>(True ∧ some k_ ≠ (.slice Ao141 t8.length co141 : Value).ownBlock)) (n:=t18.length) (c:=co153) ?_).2.2;exact (by (with_reducible repeat (first | apply Kd.R_alloc | apply Kd.R_drewN | apply Kd.R_drew));exact (Kd.R_mono (Kd.R_far (p:=⟨gb21,0,none⟩) (Kd.R_types HO20.1 BK21.1 (by decide)) (fun _ hk=>hk.2) (.slice Ao153 t18.length co153)) (fun _ h_=>h_.1))));(case side4=>exact (Kd.R_reads' HO20.1).2.1);rintro e w159 ⟨v23,rfl,ho0,hb⟩;refine ⟨_,rfl,?_⟩;have n0_:=a0_ (Kd.R_below (by (with_reducible repeat (first | apply Kd.R_alloc | apply Kd.R_drewN | apply Kd.R_drew));exact (Kd.R_mono (Kd.R_far (p:=⟨gb21,0,none⟩) (Kd.R_types HO7.1 BK21.1 (by decide)) (fun _ hk=>hk.2) (.slice Ao153 t18.length co153)) (fun _ h_=>h_.1))) hb);have n1_:=a0_ (Kd.R_below (by (with_reducible repeat (first | apply Kd.R_alloc | apply Kd.R_drewN | apply Kd.R_drew));exact (Kd.R_mono (Kd.R_far (p:=⟨gb21,0,none⟩) (Kd.R_types HO10.1 BK21.1 (by decide)) (fun _ hk=>hk.2) (.slice Ao153 t18.length co153)) (fun _ h_=>h_.1))) hb);have n2_:=a0_ (Kd.R_elder' (by (with_reducible repeat (first | apply Kd.R_alloc | apply Kd.R_drewN | apply Kd.R_drew));exact (Kd.R_mono (Kd.R_far (p:=⟨gb21,0,none⟩) (Kd.R_types HO13.1 BK21.1 (by decide)) (fun _ hk=>hk.2) (.slice Ao153 t18.length co153)) (fun _ h_=>h_.1))) (Kd.R_base ho0) hb);have n3_:=a0_ (Kd.R_below (by (with_reducible repeat (first | apply Kd.R_alloc | apply Kd.R_drewN | apply Kd.R_drew));exact (Kd.R_mono (Kd.R_far (p:=⟨gb21,0,none⟩) (Kd.R_types HO16.1 BK21.1 (by decide)) (fun _ hk=>hk.2) (.slice Ao153 t18.length co153)) (fun _ h_=>h_.1))) hb);have n4_:=a0_ (Kd.R_below (by (with_reducible repeat (first | apply Kd.R_alloc | apply Kd.R_drewN | apply Kd.R_drew));exact (Kd.R_mono (Kd.R_far (p:=⟨gb21,0,none⟩) (Kd.R_types HO20.1 BK21.1 (by decide)) (fun _ hk=>hk.2) (.slice Ao153 t18.length co153)) (fun _ h_=>h_.1))) hb);have n5_:=a0_ (Kd.R_lower (Kd.R_new' ho0 (Kd.R_lt (by (with_reducible repeat (first | apply Kd.R_alloc | apply Kd.R_drewN | apply Kd.R_drew));exact (Kd.R_mono (Kd.R_far (p:=⟨gb21,0,none⟩) (Kd.R_types HO13.1 BK21.1 (by decide)) (fun _ hk=>hk.2) (.slice Ao153 t18.length co153)) (fun _ h_=>h_.1))))) (below_size hb_));have n6_:=kf_ BK1 NB1_21 hb;have n7_:=kf_ BK2 NB2_21 hb;have n8_:=kf_ BK17 NB17_21 hb;have n9_:=a0_ (blk_below (g:=gb21) (o:=.cells #[.slice Ao153 t18.length co153] 37 (0,0)) (by (with_reducible repeat (first | refine blk_drewN ?_ _ | refine blk_drew ?_ | refine blk_alloc ?_ _));refine blk_put (cs:=#[.slice none 0 0]) ?_ 0 _ rfl;(with_reducible repeat (first | refine blk_drewN ?_ _ | refine blk_drew ?_ | refine blk_alloc ?_ _));exact BK21.1) hb);have n10_:=a0_ (below_step hb_ hb);clear HO7 HO10;clear HO13 HO16;clear HO20 BK1;clear BK2 BK17;clear BK21 HB;have HO7:=n0_;have HO10:=n1_;have HO13:=n2_;have HO16:=n3_;have HO20:=n4_;have HO24:=n5_;have BK1:=n6_;have BK2:=n7_;have BK17:=n8_;have BK21:=n9_;have HB:=n10_;clear n0_ n1_ n2_ n3_ n4_ n5_ n6_ n7_ n8_ n9_ n10_;(try clear hb);(try clear ho0);obtain ⟨Ao160,co160,eo160⟩:=Kd.R_slice HO24.1;subst eo160;obtain ⟨Ao161,co161,eo161⟩:=Kd.R_slice HO13.1;subst eo161) | ((with_reducible refine gate_callee (f:=28) rfl ?_);refine goesL_ (some 42) rfl rfl Try.func28 (by kernel_rfl) rfl #[.slice Ao160 t22.length co160,.slice Ao161 t11.length co161] rfl lm_ ?_;(with_reducible refine (laws_eqIntS.calls k _ _ t22 _ _ t11 true _ ?side1 ?side2 ?side3 ?side4 A26.1).mono ?_);(case side1=>exact cc_ (Kd.R_reads' HO24.1).2.2);(case side2=>exact (Kd.R_reads' HO24.1).2.1);(case side3=>exact cc_ (Kd.R_reads' HO13.1).2.2);(case side4=>exact (Kd.R_reads' HO13.1).2.1);rintro e w' ⟨rfl,⟨nd,rfl⟩⟩;refine ⟨_,rfl,?_⟩))
      (try (rw [drewN_self w159];generalize hq_ : World.drewN w159 _ = w159;have n0_ : Aside0 (Kd.R k79 79 w159 w.heap.size (fun k_=>(True ∧ some k_ ≠ (.slice Ao153 t18.length co153 : Value).ownBlock)) (.slice Ao141 t8.length co141) t8):=⟨by rw [← hq_];exact (rr_ HO10.1)⟩;have n1_ : Aside0 (Kd.R (Kd.int .i64) 3 w159 w.heap.size (fun k_=>(True ∧ some k_ ≠ (.slice Ao160 t22.length co160 : Value).ownBlock)) (.slice Ao161 t11.length co161) t11):=⟨by rw [← hq_];exact (rr_ HO13.1)⟩;have n2_ : Aside0 (Kd.R k106 106 w159 w.heap.size (fun k_=>(True ∧ some k_ ≠ (.slice Ao140 t5.length co140 : Value).ownBlock)) (.slice Ao146 t14.length co146) t14):=⟨by rw [← hq_];exact (rr_ HO16.1)⟩;have n3_ : Aside0 (Kd.R k79 79 w159 w.heap.size (fun k_=>(True ∧ some k_ ≠ (.slice Ao141 t8.length co141 : Value).ownBlock)) (.slice Ao153 t18.length co153) t18):=⟨by rw [← hq_];exact (rr_ HO20.1)⟩;have n4_ : Aside0 (Kd.R (Kd.int .i64) 3 w159 w.heap.size (fun k_=>(True ∧ some k_ ≠ (.slice Ao161 t11.length co161 : Value).ownBlock)) (.slice Ao160 t22.length co160) t22):=⟨by rw [← hq_];exact (rr_ HO24.1)⟩;have n5_ : Aside0 (Kd.R k106 106 w159 w.heap.size (fun k_=>(True ∧ some k_ ≠ (.slice Ao146 t14.length co146 : Value).ownBlock)) (.slice Ao140 t5.length co140) t5):=⟨by rw [← hq_];exact (rr_ HO7.1)⟩;have n6_ : Aside0 (w159.heap[gb1]? = some (.cells #[.slice A0_0 l0_0.length c0_0] 24 (0,0))):=⟨by rw [← hq_];exact (bb_ BK1.1)⟩;have n7_ : Aside0 (w159.heap[gb17]? = some (.cells #[.slice Ao146 t14.length co146] 33 (0,0))):=⟨by rw [← hq_];exact (bb_ BK17.1)⟩;have n8_ : Aside0 (w159.heap[gb2]? = some (.cells #[.slice A1_0 l1_0.length c1_0] 27 (0,0))):=⟨by rw [← hq_];exact (bb_ BK2.1)⟩;have n9_ : Aside0 (w159.heap[gb21]? = some (.cells #[.slice Ao153 t18.length co153] 37 (0,0))):=⟨by rw [← hq_];exact (bb_ BK21.1)⟩;have n10_ : Aside0 (Below w.heap.size w w159):=⟨by rw [← hq_];exact hb_⟩;clear HO10 HO13 HO16 HO20 HO24 HO7 BK1 BK17 BK2 BK21 HB hq_;have HO10:=n0_;have HO13:=n1_;have HO16:=n2_;have HO20:=n3_;have HO24:=n4_;have HO7:=n5_;have BK1:=n6_;have BK17:=n7_;have BK2:=n8_;have BK21:=n9_;have HB:=n10_;clear n0_ n1_ n2_ n3_ n4_ n5_ n6_ n7_ n8_ n9_ n10_))
      have n0_:=a0_ (Kd.R_drew HO7.1)
      have n1_:=a0_ (Kd.R_drew HO10.1)
      have n2_:=a0_ (Kd.R_drew HO13.1)
      have n3_:=a0_ (Kd.R_drew HO16.1)
      have n4_:=a0_ (Kd.R_drew HO20.1)
      have n5_:=a0_ (Kd.R_drew HO24.1)
      have n6_:=a0_ (blk_drew BK1.1)
      have n7_:=a0_ (blk_drew BK2.1)
      have n8_:=a0_ (blk_drew BK17.1)
      have n9_:=a0_ (blk_drew BK21.1)
      have n10_:=a0_ (below_drew1 HB.1)
      clear HO7
      clear HO10
      clear HO13
      clear HO16
      clear HO20
      clear HO24
      clear BK1
      clear BK2
      clear BK17
      clear BK21
      clear HB
      have HO7:=n0_
      have HO10:=n1_
      have HO13:=n2_
      have HO16:=n3_
      have HO20:=n4_
      have HO24:=n5_
      have BK1:=n6_
      have BK2:=n7_
      have BK17:=n8_
      have BK21:=n9_
      have HB:=n10_
      clear n0_ n1_ n2_ n3_ n4_ n5_ n6_ n7_ n8_ n9_ n10_
      refine start_ (n:=5) (S:=fun w'=>w'.cell? ⟨gb17,0,none⟩ = some (.slice Ao146 t14.length co146) ∧ w'.cell? ⟨gb1,0,none⟩ = some (.slice A0_0 l0_0.length c0_0)) (ds:=[]) #[false,false,false,false,false] (by kernel_rfl) rfl rfl ⟨(blk_cell BK17.1 0).trans rfl,(blk_cell BK1.1 0).trans rfl⟩ (fun hHeld=>?_)
      generalize w159.drew = w162 at HO7 HO10 HO13 HO16 HO20 HO24 BK1 BK2 BK17 BK21 HB hHeld ⊢
      refine take_ (i:=0) (N:=some 44) (v:=?_) (a':=?_) #[true,false,false,false,false] rfl rfl (by kernel_rfl) (fun _ _ _ h=>h) (Or.inl ⟨by rfl,?_⟩) hHeld ?_ ?_
      rotate_left
      ·rintro w' ⟨s0,s1⟩
       go_simp
       with_reducible rfl
      rotate_left
      ·simp only [Act.put,s1_,s2_,s3_,i64_w,i32_w]
       rfl
      refine take_ (i:=1) (N:=some 45) (v:=?_) (a':=?_) #[true,true,false,false,false] rfl rfl (by kernel_rfl) (fun _ _ _ h=>h) (Or.inl ⟨by rfl,?_⟩) hHeld ?_ ?_
      rotate_left
      ·rintro w' ⟨s0,s1⟩
       go_simp
       with_reducible rfl
      rotate_left
      ·simp only [Act.put,s1_,s2_,s3_,i64_w,i32_w]
       rfl
      refine one_ (i:=2) (N:=some 46) #[true,true,true,false,false] rfl rfl (by kernel_rfl) (by decide) (fun K hK=>?_)
      refine goes_ Try.func17 (by kernel_rfl) rfl #[.agg #[.slice A0_0 l0_0.length c0_0]] (by rfl) rfl rfl lm_ ?_
      with_reducible refine (laws_toTree.calls k _ _ l0_0 t26 _ ?side1 ?side2 A28.1).mono ?_
      (case side1=>exact cc_ (Kd.C_below HR0_0.1 HB.1))
      (case side2=>exact HC0_0.1)
      rintro e w163 ⟨v27,rfl,ho0,hb⟩
      refine ⟨_,rfl,?_⟩
      have n0_:=a0_ (Kd.R_elder' (rr_ HO7.1) (Kd.R_base ho0) hb)
      have n1_:=rb_ HO10 hb
      have n2_:=rb_ HO13 hb
      have n3_:=a0_ (Kd.R_elder' (rr_ HO16.1) (Kd.R_base ho0) hb)
      have n4_:=rb_ HO20 hb
      have n5_:=rb_ HO24 hb
      have n6_:=a0_ (Kd.R_lower (Kd.R_new' (Kd.R_new' ho0 (Kd.R_lt (rr_ HO7.1))) (Kd.R_lt (rr_ HO16.1))) (below_size hb_))
      have n7_:=kb_ BK1 hb
      have n8_:=kb_ BK2 hb
      have n9_:=kb_ BK17 hb
      have n10_:=kb_ BK21 hb
      have n11_:=a0_ (below_step hb_ hb)
      clear HO7
      clear HO10
      clear HO13
      clear HO16
      clear HO20
      clear HO24
      clear BK1
      clear BK2
      clear BK17
      clear BK21
      clear HB
      have HO7:=n0_
      have HO10:=n1_
      have HO13:=n2_
      have HO16:=n3_
      have HO20:=n4_
      have HO24:=n5_
      have HO28:=n6_
      have BK1:=n7_
      have BK2:=n8_
      have BK17:=n9_
      have BK21:=n10_
      have HB:=n11_
      clear n0_ n1_ n2_ n3_ n4_ n5_ n6_ n7_ n8_ n9_ n10_ n11_
      (try clear hb)
      (try clear hb2)
      (try clear hk)
      (try clear hi)
      (try clear ho0)
      obtain ⟨Ao164,co164,eo164⟩:=Kd.R_slice HO28.1
      (first | subst eo164 | (injection eo164 with f1_ f2_ f3_;have f4_:=f1_.symm;have f5_:=f3_.symm;clear f1_ f2_ f3_;subst f4_;subst f5_))
      refine hK.out _ _ ⟨(blk_cell BK17.1 0).trans rfl,(blk_cell BK1.1 0).trans rfl⟩ (fun hHeld=>?_)
      clear hK K
      refine norm_ (a':=?_) ?_ ?_
      rotate_left
      ·show Act.put _ (some 46) _ = _
       simp only [Act.put,s1_,s2_,s3_,i64_w,i32_w]
       rfl
      refine one_ (i:=3) (N:=some 47) #[true,true,true,true,false] rfl rfl (by kernel_rfl) (by decide) (fun K hK=>?_)
      refine goes_ Try.func20 (by kernel_rfl) rfl #[.agg #[.slice Ao146 t14.length co146],.agg #[.slice Ao164 t26.length co164]] (by rfl) rfl rfl lm_ ?_
      with_reducible refine (laws_eqTree.calls k _ _ t14 _ _ t26 true _ ?side1 ?side2 ?side3 ?side4 A29.1).mono ?_
      (case side1=>exact cc_ (Kd.R_reads' HO16.1).2.2)
      (case side2=>exact (Kd.R_reads' HO16.1).2.1)
      (case side3=>exact cc_ (Kd.R_reads' HO28.1).2.2)
      (case side4=>exact (Kd.R_reads' HO28.1).2.1)
      rintro e w165 ⟨rfl,hb⟩
      refine ⟨_,rfl,?_⟩
      have n0_:=rb_ HO7 hb
      have n1_:=rb_ HO10 hb
      have n2_:=rb_ HO13 hb
      have n3_:=rb_ HO16 hb
      have n4_:=rb_ HO20 hb
      have n5_:=rb_ HO24 hb
      have n6_:=rb_ HO28 hb
      have n7_:=kb_ BK1 hb
      have n8_:=kb_ BK2 hb
      have n9_:=kb_ BK17 hb
      have n10_:=kb_ BK21 hb
      have n11_:=a0_ (below_step hb_ hb)
      clear HO7
      clear HO10
      clear HO13
      clear HO16
      clear HO20
      clear HO24
      clear HO28
      clear BK1
      clear BK2
      clear BK17
      clear BK21
      clear HB
      have HO7:=n0_
      have HO10:=n1_
      have HO13:=n2_
      have HO16:=n3_
      have HO20:=n4_
      have HO24:=n5_
      have HO28:=n6_
      have BK1:=n7_
      have BK2:=n8_
      have BK17:=n9_
      have BK21:=n10_
      have HB:=n11_
      clear n0_ n1_ n2_ n3_ n4_ n5_ n6_ n7_ n8_ n9_ n10_ n11_
      (try clear hb)
      (try clear hb2)
      (try clear hk)
      (try clear hi)
      refine hK.out _ _ ⟨(blk_cell BK17.1 0).trans rfl,(blk_cell BK1.1 0).trans rfl⟩ (fun hHeld=>?_)
      clear hK K
      refine norm_ (a':=?_) ?_ ?_
      rotate_left
      ·show Act.put _ (some 47) _ = _
       simp only [Act.put,s1_,s2_,s3_,i64_w,i32_w]
       rfl
      refine pure_ (i:=4) (N:=some 48) (v:=?_) (a':=?_) #[true,true,true,true,true] rfl rfl (by kernel_rfl) (fun _ _ _ h=>h) (Or.inl ⟨by rfl,?_⟩) ?_ ?_
      rotate_left
      ·intro w'
       go_simp
       with_reducible rfl
      rotate_left
      ·simp only [Act.put,s1_,s2_,s3_,i64_w,i32_w]
       rfl
      refine done_ (by kernel_rfl) ?_
      try go_wp2
      have n0_:=a0_ (Kd.R_drew HO7.1)
      have n1_:=a0_ (Kd.R_drew HO10.1)
      have n2_:=a0_ (Kd.R_drew HO13.1)
      have n3_:=a0_ (Kd.R_drew HO16.1)
      have n4_:=a0_ (Kd.R_drew HO20.1)
      have n5_:=a0_ (Kd.R_drew HO24.1)
      have n6_:=a0_ (Kd.R_drew HO28.1)
      have n7_:=a0_ (blk_drew BK1.1)
      have n8_:=a0_ (blk_drew BK2.1)
      have n9_:=a0_ (blk_drew BK17.1)
      have n10_:=a0_ (blk_drew BK21.1)
      have n11_:=a0_ (below_drew1 HB.1)
      clear HO7
      clear HO10
      clear HO13
      clear HO16
      clear HO20
      clear HO24
      clear HO28
      clear BK1
      clear BK2
      clear BK17
      clear BK21
      clear HB
      have HO7:=n0_
      have HO10:=n1_
      have HO13:=n2_
      have HO16:=n3_
      have HO20:=n4_
      have HO24:=n5_
      have HO28:=n6_
      have BK1:=n7_
      have BK2:=n8_
      have BK17:=n9_
      have BK21:=n10_
      have HB:=n11_
      clear n0_ n1_ n2_ n3_ n4_ n5_ n6_ n7_ n8_ n9_ n10_ n11_
      refine start_ (n:=5) (S:=fun w'=>w'.cell? ⟨gb21,0,none⟩ = some (.slice Ao153 t18.length co153) ∧ w'.cell? ⟨gb2,0,none⟩ = some (.slice A1_0 l1_0.length c1_0)) (ds:=[]) #[false,false,false,false,false] (by kernel_rfl) rfl rfl ⟨(blk_cell BK21.1 0).trans rfl,(blk_cell BK2.1 0).trans rfl⟩ (fun hHeld=>?_)
      generalize w165.drew = w166 at HO7 HO10 HO13 HO16 HO20 HO24 HO28 BK1 BK2 BK17 BK21 HB hHeld ⊢
      refine take_ (i:=0) (N:=some 49) (v:=?_) (a':=?_) #[true,false,false,false,false] rfl rfl (by kernel_rfl) (fun _ _ _ h=>h) (Or.inl ⟨by rfl,?_⟩) hHeld ?_ ?_
      rotate_left
      ·rintro w' ⟨s0,s1⟩
       go_simp
       with_reducible rfl
      rotate_left
      ·simp only [Act.put,s1_,s2_,s3_,i64_w,i32_w]
       rfl
      refine take_ (i:=1) (N:=some 50) (v:=?_) (a':=?_) #[true,true,false,false,false] rfl rfl (by kernel_rfl) (fun _ _ _ h=>h) (Or.inl ⟨by rfl,?_⟩) hHeld ?_ ?_
      rotate_left
      ·rintro w' ⟨s0,s1⟩
       go_simp
       with_reducible rfl
      rotate_left
      ·simp only [Act.put,s1_,s2_,s3_,i64_w,i32_w]
       rfl
      refine one_ (i:=2) (N:=some 51) #[true,true,true,false,false] rfl rfl (by kernel_rfl) (by decide) (fun K hK=>?_)
      refine goes_ Try.func18 (by kernel_rfl) rfl #[.agg #[.slice A1_0 l1_0.length c1_0]] (by rfl) rfl rfl lm_ ?_
      with_reducible refine (laws_toHeap.calls k _ _ l1_0 t30 _ ?side1 ?side2 A31.1).mono ?_
      (case side1=>exact cc_ (Kd.C_below HR1_0.1 HB.1))
      (case side2=>exact HC1_0.1)
      rintro e w167 ⟨v31,rfl,ho0,hb⟩
      refine ⟨_,rfl,?_⟩
      have n0_:=rb_ HO7 hb
      have n1_:=a0_ (Kd.R_elder' (rr_ HO10.1) (Kd.R_base ho0) hb)
      have n2_:=rb_ HO13 hb
      have n3_:=rb_ HO16 hb
      have n4_:=a0_ (Kd.R_elder' (rr_ HO20.1) (Kd.R_base ho0) hb)
      have n5_:=rb_ HO24 hb
      have n6_:=rb_ HO28 hb
      have n7_:=a0_ (Kd.R_lower (Kd.R_new' (Kd.R_new' ho0 (Kd.R_lt (rr_ HO10.1))) (Kd.R_lt (rr_ HO20.1))) (below_size hb_))
      have n8_:=kb_ BK1 hb
      have n9_:=kb_ BK2 hb
      have n10_:=kb_ BK17 hb
      have n11_:=kb_ BK21 hb
      have n12_:=a0_ (below_step hb_ hb)
      clear HO7
      clear HO10
      clear HO13
      clear HO16
      clear HO20
      clear HO24
      clear HO28
      clear BK1
      clear BK2
      clear BK17
      clear BK21
      clear HB
      have HO7:=n0_
      have HO10:=n1_
      have HO13:=n2_
      have HO16:=n3_
      have HO20:=n4_
      have HO24:=n5_
      have HO28:=n6_
      have HO32:=n7_
      have BK1:=n8_
      have BK2:=n9_
      have BK17:=n10_
      have BK21:=n11_
      have HB:=n12_
      clear n0_ n1_ n2_ n3_ n4_ n5_ n6_ n7_ n8_ n9_ n10_ n11_ n12_
      (try clear hb)
      (try clear hb2)
      (try clear hk)
      (try clear hi)
      (try clear ho0)
      obtain ⟨Ao168,co168,eo168⟩:=Kd.R_slice HO32.1
      (first | subst eo168 | (injection eo168 with f1_ f2_ f3_;have f4_:=f1_.symm;have f5_:=f3_.symm;clear f1_ f2_ f3_;subst f4_;subst f5_))
      refine hK.out _ _ ⟨(blk_cell BK21.1 0).trans rfl,(blk_cell BK2.1 0).trans rfl⟩ (fun hHeld=>?_)
      clear hK K
      refine norm_ (a':=?_) ?_ ?_
      rotate_left
      ·show Act.put _ (some 51) _ = _
       simp only [Act.put,s1_,s2_,s3_,i64_w,i32_w]
       rfl
      refine one_ (i:=3) (N:=some 52) #[true,true,true,true,false] rfl rfl (by kernel_rfl) (by decide) (fun K hK=>?_)
      refine goes_ Try.func21 (by kernel_rfl) rfl #[.agg #[.slice Ao153 t18.length co153],.agg #[.slice Ao168 t30.length co168]] (by rfl) rfl rfl lm_ ?_
      with_reducible refine (laws_eqHeap.calls k _ _ t18 _ _ t30 false _ ?side1 ?side2 ?side3 ?side4 A32.1).mono ?_
      (case side1=>exact cc_ (Kd.R_reads' HO20.1).2.2)
      (case side2=>exact (Kd.R_reads' HO20.1).2.1)
      (case side3=>exact cc_ (Kd.R_reads' HO32.1).2.2)
      (case side4=>exact (Kd.R_reads' HO32.1).2.1)
      rintro e w169 ⟨rfl,hb⟩
      refine ⟨_,rfl,?_⟩
      have n0_:=rb_ HO7 hb
      have n1_:=rb_ HO10 hb
      have n2_:=rb_ HO13 hb
      have n3_:=rb_ HO16 hb
      have n4_:=rb_ HO20 hb
      have n5_:=rb_ HO24 hb
      have n6_:=rb_ HO28 hb
      have n7_:=rb_ HO32 hb
      have n8_:=kb_ BK1 hb
      have n9_:=kb_ BK2 hb
      have n10_:=kb_ BK17 hb
      have n11_:=kb_ BK21 hb
      have n12_:=a0_ (below_step hb_ hb)
      clear HO7
      clear HO10
      clear HO13
      clear HO16
      clear HO20
      clear HO24
      clear HO28
      clear HO32
      clear BK1
      clear BK2
      clear BK17
      clear BK21
      clear HB
      have HO7:=n0_
      have HO10:=n1_
      have HO13:=n2_
      have HO16:=n3_
      have HO20:=n4_
      have HO24:=n5_
      have HO28:=n6_
      have HO32:=n7_
      have BK1:=n8_
      have BK2:=n9_
      have BK17:=n10_
      have BK21:=n11_
      have HB:=n12_
      clear n0_ n1_ n2_ n3_ n4_ n5_ n6_ n7_ n8_ n9_ n10_ n11_ n12_
      (try clear hb)
      (try clear hb2)
      (try clear hk)
      (try clear hi)
      refine hK.out _ _ ⟨(blk_cell BK21.1 0).trans rfl,(blk_cell BK2.1 0).trans rfl⟩ (fun hHeld=>?_)
      clear hK K
      refine norm_ (a':=?_) ?_ ?_
      rotate_left
      ·show Act.put _ (some 52) _ = _
       simp only [Act.put,s1_,s2_,s3_,i64_w,i32_w]
       rfl
      refine pure_ (i:=4) (N:=some 53) (v:=?_) (a':=?_) #[true,true,true,true,true] rfl rfl (by kernel_rfl) (fun _ _ _ h=>h) (Or.inl ⟨by rfl,?_⟩) ?_ ?_
      rotate_left
      ·intro w'
       go_simp
       with_reducible rfl
      rotate_left
      ·simp only [Act.put,s1_,s2_,s3_,i64_w,i32_w]
       rfl
      refine done_ (by kernel_rfl) ?_
      try go_wp2
      go_ret
      exact ⟨by first | rfl | (simp [errW_none,errW_some] <;> rfl) | (simp [*,errW_none,errW_some] <;> rfl),hb_⟩
    ·replace c30:=Bool.eq_false_iff.mpr c30
     subst c30
     have H1 : (some false) = some r:=by rw [if_neg (show ¬ (false = true) by decide)] at H;exact H
     clear H
     have H:=H1
     clear H1
     obtain rfl:=Option.some.inj H
     go_enter Try.func7,Try.ntmps7
     try go_wp2_with (first | ((with_reducible refine gate_dst (N:=3) rfl ?_);refine box_event ?hg (N:=3) ?hd (cs:=#[.slice A0_0 l0_0.length c0_0]) (t:=24) ?hr ?_;(case hd=>rfl);(case hg=>rfl);(case hr=>first | (go_simp;done) | (go_simp;rfl));intro gb1 hg w170 hbox hb;have BK1:=a0_ (hbox);have GW1:=a0_ ((by rw [hg];exact (below_size hb_) : w.heap.size ≤ gb1));have GE1:=a0_ ((by rw [hg];exact (below_size hb_) : w.heap.size ≤ gb1));replace HB:=a0_ (below_step hb_ hb);clear hb hbox hg) | ((with_reducible refine gate_dst (N:=4) rfl ?_);refine box_event ?hg (N:=4) ?hd (cs:=#[.slice A1_0 l1_0.length c1_0]) (t:=27) ?hr ?_;(case hd=>rfl);(case hg=>rfl);(case hr=>first | (go_simp;done) | (go_simp;rfl));intro gb2 hg w171 hbox hb;have n0_:=kb_ BK1 hb;have n1_:=a0_ (below_step hb_ hb);have n2_:=a0_ (hbox);have n3_:=a0_ ((by rw [hg];exact (below_size hb_) : w.heap.size ≤ gb2));have n4_:=a0_ ((by rw [hg];exact (below_size hb_) : w.heap.size ≤ gb2));have n5_:=a0_ ((by rw [hg];exact Nat.ne_of_lt (blk_lt (bb_ BK1.1)) : gb1 ≠ gb2));have n6_:=a0_ ((by rw [hg];exact Nat.ne_of_gt (blk_lt (bb_ BK1.1)) : gb2 ≠ gb1));clear BK1 HB;have BK1:=n0_;have HB:=n1_;have BK2:=n2_;have GW2:=n3_;have GE2:=n4_;have NB1_2:=n5_;have NB2_1:=n6_;clear n0_ n1_ n2_ n3_ n4_ n5_ n6_;clear hb hbox hg;have hnb172:=NB1_2.1;have hnc172:=NB2_1.1;have hcz173_0 : w171.cell? ⟨gb1,0,none⟩ = some (.slice A0_0 l0_0.length c0_0):=(blk_cell BK1.1 0).trans rfl;have hfz173_0:=blk_frozen BK1.1 0) | ((with_reducible refine gate_callee (f:=14) rfl ?_);refine goesL_ (some 18) rfl rfl Try.func14 (by kernel_rfl) rfl #[.agg #[.slice A0_0 l0_0.length c0_0],.int .i64 1048576] rfl lm_ ?_;(with_reducible refine (laws_szTree.calls k _ _ l0_0 1048576 t3 _ ?side1 ?side2 A4.1).mono ?_);(case side1=>exact cc_ (Kd.C_below HR0_0.1 HB.1));(case side2=>exact HC0_0.1);rintro e w174 ⟨rfl,hb⟩;refine ⟨_,rfl,?_⟩;replace BK1:=kb_ BK1 hb;replace BK2:=kb_ BK2 hb;replace HB:=a0_ (below_step hb_ hb);(try clear hb);have hcz175_0 : w174.cell? ⟨gb2,0,none⟩ = some (.slice A1_0 l1_0.length c1_0):=(blk_cell BK2.1 0).trans rfl;have hfz175_0:=blk_frozen BK2.1 0) | ((with_reducible refine gate_callee (f:=15) rfl ?_);refine goesL_ (some 23) rfl rfl Try.func15 (by kernel_rfl) rfl #[.agg #[.slice A1_0 l1_0.length c1_0],.int .i64 t3] rfl lm_ ?_;(with_reducible refine (laws_szHeap.calls _ _ l1_0 t3 t4 _ ?side1 ?side2 A11.1).mono ?_);(case side1=>exact cc_ (Kd.C_below HR1_0.1 HB.1));(case side2=>exact HC1_0.1);rintro e w176 ⟨rfl,hb⟩;refine ⟨_,rfl,?_⟩;replace BK1:=kb_ BK1 hb;replace BK2:=kb_ BK2 hb;replace HB:=a0_ (below_step hb_ hb);(try clear hb);(try clear hb2);(try clear hk);(try clear hi)))
     have n0_:=a0_ (blk_drew BK1.1)
     have n1_:=a0_ (blk_drew BK2.1)
     have n2_:=a0_ (below_drew1 HB.1)
     clear BK1
     clear BK2
     clear HB
     have BK1:=n0_
     have BK2:=n1_
     have HB:=n2_
     clear n0_ n1_ n2_
     refine start_ (n:=7) (S:=fun w'=>w'.cell? ⟨gb1,0,none⟩ = some (.slice A0_0 l0_0.length c0_0) ∧ w'.cell? ⟨gb2,0,none⟩ = some (.slice A1_0 l1_0.length c1_0)) (ds:=[]) #[false,false,false,false,false,false,false] (by kernel_rfl) rfl rfl ⟨(blk_cell BK1.1 0).trans rfl,(blk_cell BK2.1 0).trans rfl⟩ (fun hHeld=>?_)
     generalize w176.drew = w177 at BK1 BK2 HB hHeld ⊢
     refine pure_ (i:=4) (N:=some 30) (v:=?_) (a':=?_) #[false,false,false,false,true,false,false] rfl rfl (by kernel_rfl) (fun _ _ _ h=>h) (Or.inl ⟨by rfl,?_⟩) ?_ ?_
     rotate_left
     ·intro w'
      go_simp
      with_reducible rfl
     rotate_left
     ·simp only [Act.put,s1_,s2_,s3_,i64_w,i32_w]
      rfl
     refine take_ (i:=0) (N:=some 26) (v:=?_) (a':=?_) #[true,false,false,false,true,false,false] rfl rfl (by kernel_rfl) (fun _ _ _ h=>h) (Or.inl ⟨by rfl,?_⟩) hHeld ?_ ?_
     rotate_left
     ·rintro w' ⟨s0,s1⟩
      go_simp
      with_reducible rfl
     rotate_left
     ·simp only [Act.put,s1_,s2_,s3_,i64_w,i32_w]
      rfl
     refine take_ (i:=2) (N:=some 28) (v:=?_) (a':=?_) #[true,false,true,false,true,false,false] rfl rfl (by kernel_rfl) (fun _ _ _ h=>h) (Or.inl ⟨by rfl,?_⟩) hHeld ?_ ?_
     rotate_left
     ·rintro w' ⟨s0,s1⟩
      go_simp
      with_reducible rfl
     rotate_left
     ·simp only [Act.put,s1_,s2_,s3_,i64_w,i32_w]
      rfl
     refine one_ (i:=1) (N:=some 27) #[true,true,true,false,true,false,false] rfl rfl (by kernel_rfl) (by decide) (fun K hK=>?_)
     refine goes_ Try.func17 (by kernel_rfl) rfl #[.agg #[.slice A0_0 l0_0.length c0_0]] (by rfl) rfl rfl lm_ ?_
     with_reducible refine (laws_toTree.calls k _ _ l0_0 t5 _ ?side1 ?side2 A20.1).mono ?_
     (case side1=>exact cc_ (Kd.C_below HR0_0.1 HB.1))
     (case side2=>exact HC0_0.1)
     rintro e w178 ⟨v6,rfl,ho0,hb⟩
     refine ⟨_,rfl,?_⟩
     have n0_:=a0_ (Kd.R_lower ho0 (below_size hb_))
     have n1_:=kb_ BK1 hb
     have n2_:=kb_ BK2 hb
     have n3_:=a0_ (below_step hb_ hb)
     clear BK1
     clear BK2
     clear HB
     have HO7:=n0_
     have BK1:=n1_
     have BK2:=n2_
     have HB:=n3_
     clear n0_ n1_ n2_ n3_
     (try clear hb)
     (try clear hb2)
     (try clear hk)
     (try clear hi)
     (try clear ho0)
     refine hK.out _ _ ⟨(blk_cell BK1.1 0).trans rfl,(blk_cell BK2.1 0).trans rfl⟩ (fun hHeld=>?_)
     clear hK K
     refine norm_ (a':=?_) ?_ ?_
     rotate_left
     ·show Act.put _ (some 27) _ = _
      simp only [Act.put,s1_,s2_,s3_,i64_w,i32_w]
      rfl
     refine one_ (i:=3) (N:=some 29) #[true,true,true,true,true,false,false] rfl rfl (by kernel_rfl) (by decide) (fun K hK=>?_)
     refine goes_ Try.func18 (by kernel_rfl) rfl #[.agg #[.slice A1_0 l1_0.length c1_0]] (by rfl) rfl rfl lm_ ?_
     with_reducible refine (laws_toHeap.calls k _ _ l1_0 t8 _ ?side1 ?side2 A21.1).mono ?_
     (case side1=>exact cc_ (Kd.C_below HR1_0.1 HB.1))
     (case side2=>exact HC1_0.1)
     rintro e w179 ⟨v9,rfl,ho0,hb⟩
     refine ⟨_,rfl,?_⟩
     have n0_:=rb_ HO7 hb
     have n1_:=a0_ (Kd.R_lower ho0 (below_size hb_))
     have n2_:=kb_ BK1 hb
     have n3_:=kb_ BK2 hb
     have n4_:=a0_ (below_step hb_ hb)
     clear HO7
     clear BK1
     clear BK2
     clear HB
     have HO7:=n0_
     have HO10:=n1_
     have BK1:=n2_
     have BK2:=n3_
     have HB:=n4_
     clear n0_ n1_ n2_ n3_ n4_
     (try clear hb)
     (try clear hb2)
     (try clear hk)
     (try clear hi)
     (try clear ho0)
     obtain ⟨Ao180,co180,eo180⟩:=Kd.R_slice HO7.1
     (first | subst eo180 | (injection eo180 with f1_ f2_ f3_;have f4_:=f1_.symm;have f5_:=f3_.symm;clear f1_ f2_ f3_;subst f4_;subst f5_))
     obtain ⟨Ao181,co181,eo181⟩:=Kd.R_slice HO10.1
     (first | subst eo181 | (injection eo181 with f1_ f2_ f3_;have f4_:=f1_.symm;have f5_:=f3_.symm;clear f1_ f2_ f3_;subst f4_;subst f5_))
     refine hK.out _ _ ⟨(blk_cell BK1.1 0).trans rfl,(blk_cell BK2.1 0).trans rfl⟩ (fun hHeld=>?_)
     clear hK K
     refine norm_ (a':=?_) ?_ ?_
     rotate_left
     ·show Act.put _ (some 29) _ = _
      simp only [Act.put,s1_,s2_,s3_,i64_w,i32_w]
      rfl
     refine one_ (i:=5) (N:=some 31) #[true,true,true,true,true,true,false] rfl rfl (by kernel_rfl) (by decide) (fun K hK=>?_)
     refine goes_ Try.func33 (by kernel_rfl) rfl #[.agg #[.slice Ao180 t5.length co180],.agg #[.slice Ao181 t8.length co181],.int .i64 a2] (by rfl) rfl rfl lm_ ?_
     with_reducible refine (spec_ContextChain.calls k _ _ t5 _ _ t8 a2 t11 _ ?side1 ?side2 ?side3 ?side4 A22.1).mono ?_
     (case side1=>exact cc_ (Kd.R_reads' HO7.1).2.2)
     (case side2=>exact (Kd.R_reads' HO7.1).2.1)
     (case side3=>exact cc_ (Kd.R_reads' HO10.1).2.2)
     (case side4=>exact (Kd.R_reads' HO10.1).2.1)
     rintro e w182 ⟨v12,rfl,ho0,hb⟩
     refine ⟨_,rfl,?_⟩
     have n0_:=rb_ HO7 hb
     have n1_:=rb_ HO10 hb
     have n2_:=a0_ (Kd.R_lower ho0 (below_size hb_))
     have n3_:=kb_ BK1 hb
     have n4_:=kb_ BK2 hb
     have n5_:=a0_ (below_step hb_ hb)
     clear HO7
     clear HO10
     clear BK1
     clear BK2
     clear HB
     have HO7:=n0_
     have HO10:=n1_
     have HO13:=n2_
     have BK1:=n3_
     have BK2:=n4_
     have HB:=n5_
     clear n0_ n1_ n2_ n3_ n4_ n5_
     (try clear hb)
     (try clear hb2)
     (try clear hk)
     (try clear hi)
     (try clear ho0)
     refine hK.out _ _ ⟨(blk_cell BK1.1 0).trans rfl,(blk_cell BK2.1 0).trans rfl⟩ (fun hHeld=>?_)
     clear hK K
     refine norm_ (a':=?_) ?_ ?_
     rotate_left
     ·show Act.put _ (some 31) _ = _
      simp only [Act.put,s1_,s2_,s3_,i64_w,i32_w]
      rfl
     refine pure_ (i:=6) (N:=some 8) (v:=?_) (a':=?_) #[true,true,true,true,true,true,true] rfl rfl (by kernel_rfl) (fun _ _ _ h=>h) (Or.inl ⟨by rfl,?_⟩) ?_ ?_
     rotate_left
     ·intro w'
      go_simp
      with_reducible rfl
     rotate_left
     ·simp only [Act.put,s1_,s2_,s3_,i64_w,i32_w]
      rfl
     refine done_ (by kernel_rfl) ?_
     have hcz183_0 : w182.cell? ⟨gb1,0,none⟩ = some (.slice A0_0 l0_0.length c0_0):=(blk_cell BK1.1 0).trans rfl
     have hfz183_0:=blk_frozen BK1.1 0
     try go_wp2_with (first | ((with_reducible refine gate_callee (f:=17) rfl ?_);refine goesL_ (some 33) rfl rfl Try.func17 (by kernel_rfl) rfl #[.agg #[.slice A0_0 l0_0.length c0_0]] rfl lm_ ?_;(with_reducible refine (laws_toTree.calls k _ _ l0_0 t14 _ ?side1 ?side2 A23.1).mono ?_);(case side1=>exact cc_ (Kd.C_below HR0_0.1 HB.1));(case side2=>exact HC0_0.1);rintro e w184 ⟨v15,rfl,ho0,hb⟩;refine ⟨_,rfl,?_⟩;have n0_:=a0_ (Kd.R_elder' (rr_ HO7.1) (Kd.R_base ho0) hb);have n1_:=rb_ HO10 hb;have n2_:=rb_ HO13 hb;have n3_:=a0_ (Kd.R_lower (Kd.R_new' ho0 (Kd.R_lt (rr_ HO7.1))) (below_size hb_));have n4_:=kb_ BK1 hb;have n5_:=kb_ BK2 hb;have n6_:=a0_ (below_step hb_ hb);clear HO7 HO10;clear HO13 BK1;clear BK2 HB;have HO7:=n0_;have HO10:=n1_;have HO13:=n2_;have HO16:=n3_;have BK1:=n4_;have BK2:=n5_;have HB:=n6_;clear n0_ n1_ n2_ n3_ n4_ n5_ n6_;(try clear hb);(try clear ho0)) | ((with_reducible refine gate_dst (N:=9) rfl ?_);refine box_event ?hg (N:=9) ?hd (cs:=#[.slice none 0 0]) (t:=33) ?hr ?_;(case hd=>rfl);(case hg=>rfl);(case hr=>first | (go_simp;done) | (go_simp;rfl));intro gb17 hg w185 hbox hb;have n0_:=rb_ HO7 hb;have n1_:=rb_ HO10 hb;have n2_:=rb_ HO13 hb;have n3_:=rb_ HO16 hb;have n4_:=kb_ BK1 hb;have n5_:=kb_ BK2 hb;have n6_:=a0_ (below_step hb_ hb);have n7_:=a0_ (hbox);have n8_:=a0_ ((by rw [hg];exact (below_size hb_) : w.heap.size ≤ gb17));have n9_:=a0_ ((by rw [hg];exact (below_size hb_) : w.heap.size ≤ gb17));have n10_:=a0_ ((by rw [hg];exact Nat.ne_of_lt (blk_lt (bb_ BK1.1)) : gb1 ≠ gb17));have n11_:=a0_ ((by rw [hg];exact Nat.ne_of_gt (blk_lt (bb_ BK1.1)) : gb17 ≠ gb1));have n12_:=a0_ ((by rw [hg];exact Nat.ne_of_lt (blk_lt (bb_ BK2.1)) : gb2 ≠ gb17));have n13_:=a0_ ((by rw [hg];exact Nat.ne_of_gt (blk_lt (bb_ BK2.1)) : gb17 ≠ gb2));clear HO7 HO10;clear HO13 HO16;clear BK1 BK2 HB;have HO7:=n0_;have HO10:=n1_;have HO13:=n2_;have HO16:=n3_;have BK1:=n4_;have BK2:=n5_;have HB:=n6_;have BK17:=n7_;have GW17:=n8_;have GE17:=n9_;have NB1_17:=n10_;have NB17_1:=n11_;have NB2_17:=n12_;have NB17_2:=n13_;clear n0_ n1_ n2_ n3_ n4_ n5_ n6_ n7_ n8_ n9_ n10_ n11_ n12_ n13_;clear hb hbox hg;obtain ⟨Ao186,co186,eo186⟩:=Kd.R_slice HO16.1;subst eo186;have hnb187:=NB17_1.1;have hnc187:=NB1_17.1;have hnb188:=NB17_2.1;have hnc188:=NB2_17.1;have hcz189_0 : w185.cell? ⟨gb17,0,none⟩ = some (.slice none 0 0):=(blk_cell BK17.1 0).trans rfl;have hfz189_0:=blk_frozen BK17.1 0;have hcz190_0 : w185.cell? ⟨gb2,0,none⟩ = some (.slice A1_0 l1_0.length c1_0):=(blk_cell BK2.1 0).trans rfl;have hfz190_0:=blk_frozen BK2.1 0) | ((with_reducible refine gate_callee (f:=18) rfl ?_);refine goesL_ (some 35) rfl rfl Try.func18 (by kernel_rfl) rfl #[.agg #[.slice A1_0 l1_0.length c1_0]] rfl lm_ ?_;(with_reducible refine (laws_toHeap.calls k _ _ l1_0 t18 _ ?side1 ?side2 A24.1).mono ?_);(case side1=>exact Kd.C_below HR1_0.1 hb_);(case side2=>exact HC1_0.1);rintro e w191 ⟨v19,rfl,ho0,hb⟩;refine ⟨_,rfl,?_⟩;have n0_:=a0_ (Kd.R_below (by (with_reducible repeat (first | apply Kd.R_alloc | apply Kd.R_drewN | apply Kd.R_drew));exact (Kd.R_mono (Kd.R_far (p:=⟨gb17,0,none⟩) (Kd.R_types HO7.1 BK17.1 (by decide)) (fun _ hk=>hk.2) (.slice Ao186 t14.length co186)) (fun _ h_=>h_.1))) hb);have n1_:=a0_ (Kd.R_elder' (by (with_reducible repeat (first | apply Kd.R_alloc | apply Kd.R_drewN | apply Kd.R_drew));exact (Kd.R_mono (Kd.R_far (p:=⟨gb17,0,none⟩) (Kd.R_types HO10.1 BK17.1 (by decide)) (fun _ hk=>hk.2) (.slice Ao186 t14.length co186)) (fun _ h_=>h_.1))) (Kd.R_base ho0) hb);have n2_:=a0_ (Kd.R_below (by (with_reducible repeat (first | apply Kd.R_alloc | apply Kd.R_drewN | apply Kd.R_drew));exact (Kd.R_mono (Kd.R_far (p:=⟨gb17,0,none⟩) (Kd.R_types HO13.1 BK17.1 (by decide)) (fun _ hk=>hk.2) (.slice Ao186 t14.length co186)) (fun _ h_=>h_.1))) hb);have n3_:=a0_ (Kd.R_below (by (with_reducible repeat (first | apply Kd.R_alloc | apply Kd.R_drewN | apply Kd.R_drew));exact (Kd.R_mono (Kd.R_far (p:=⟨gb17,0,none⟩) (Kd.R_types HO16.1 BK17.1 (by decide)) (fun _ hk=>hk.2) (.slice Ao186 t14.length co186)) (fun _ h_=>h_.1))) hb);have n4_:=a0_ (Kd.R_lower (Kd.R_new' ho0 (Kd.R_lt (by (with_reducible repeat (first | apply Kd.R_alloc | apply Kd.R_drewN | apply Kd.R_drew));exact (Kd.R_mono (Kd.R_far (p:=⟨gb17,0,none⟩) (Kd.R_types HO10.1 BK17.1 (by decide)) (fun _ hk=>hk.2) (.slice Ao186 t14.length co186)) (fun _ h_=>h_.1))))) (below_size hb_));have n5_:=kf_ BK1 NB1_17 hb;have n6_:=kf_ BK2 NB2_17 hb;have n7_:=a0_ (blk_below (g:=gb17) (o:=.cells #[.slice Ao186 t14.length co186] 33 (0,0)) (by (with_reducible repeat (first | refine blk_drewN ?_ _ | refine blk_drew ?_ | refine blk_alloc ?_ _));refine blk_put (cs:=#[.slice none 0 0]) ?_ 0 _ rfl;(with_reducible repeat (first | refine blk_drewN ?_ _ | refine blk_drew ?_ | refine blk_alloc ?_ _));exact BK17.1) hb);have n8_:=a0_ (below_step hb_ hb);clear HO7 HO10;clear HO13 HO16;clear BK1 BK2;clear BK17 HB;have HO7:=n0_;have HO10:=n1_;have HO13:=n2_;have HO16:=n3_;have HO20:=n4_;have BK1:=n5_;have BK2:=n6_;have BK17:=n7_;have HB:=n8_;clear n0_ n1_ n2_ n3_ n4_ n5_ n6_ n7_ n8_;(try clear hb);(try clear ho0)) | ((with_reducible refine gate_dst (N:=10) rfl ?_);refine box_event ?hg (N:=10) ?hd (cs:=#[.slice none 0 0]) (t:=37) ?hr ?_;(case hd=>rfl);(case hg=>rfl);(case hr=>first | (go_simp;done) | (go_simp;rfl));intro gb21 hg w192 hbox hb;have n0_:=rb_ HO7 hb;have n1_:=rb_ HO10 hb;have n2_:=rb_ HO13 hb;have n3_:=rb_ HO16 hb;have n4_:=rb_ HO20 hb;have n5_:=kb_ BK1 hb;have n6_:=kb_ BK2 hb;have n7_:=kb_ BK17 hb;have n8_:=a0_ (below_step hb_ hb);have n9_:=a0_ (hbox);have n10_:=a0_ ((by rw [hg];exact (below_size hb_) : w.heap.size ≤ gb21));have n11_:=a0_ ((by rw [hg];exact (below_size hb_) : w.heap.size ≤ gb21));have n12_:=a0_ ((by rw [hg];exact Nat.ne_of_lt (blk_lt (bb_ BK1.1)) : gb1 ≠ gb21));have n13_:=a0_ ((by rw [hg];exact Nat.ne_of_gt (blk_lt (bb_ BK1.1)) : gb21 ≠ gb1));have n14_:=a0_ ((by rw [hg];exact Nat.ne_of_lt (blk_lt (bb_ BK2.1)) : gb2 ≠ gb21));have n15_:=a0_ ((by rw [hg];exact Nat.ne_of_gt (blk_lt (bb_ BK2.1)) : gb21 ≠ gb2));have n16_:=a0_ ((by rw [hg];exact Nat.ne_of_lt (blk_lt (bb_ BK17.1)) : gb17 ≠ gb21));have n17_:=a0_ ((by rw [hg];exact Nat.ne_of_gt (blk_lt (bb_ BK17.1)) : gb21 ≠ gb17));clear HO7 HO10;clear HO13 HO16;clear HO20 BK1;clear BK2 BK17 HB;have HO7:=n0_;have HO10:=n1_;have HO13:=n2_;have HO16:=n3_;have HO20:=n4_;have BK1:=n5_;have BK2:=n6_;have BK17:=n7_;have HB:=n8_;have BK21:=n9_;have GW21:=n10_;have GE21:=n11_;have NB1_21:=n12_;have NB21_1:=n13_;have NB2_21:=n14_;have NB21_2:=n15_;have NB17_21:=n16_;have NB21_17:=n17_;clear n0_ n1_ n2_ n3_ n4_ n5_ n6_ n7_ n8_ n9_ n10_ n11_ n12_ n13_ n14_ n15_ n16_ n17_;clear hb hbox hg;obtain ⟨Ao193,co193,eo193⟩:=Kd.R_slice HO20.1;subst eo193;have hnb194:=NB21_1.1;have hnc194:=NB1_21.1;have hnb195:=NB21_2.1;have hnc195:=NB2_21.1;have hnb196:=NB21_17.1;have hnc196:=NB17_21.1;have hcz197_0 : w192.cell? ⟨gb21,0,none⟩ = some (.slice none 0 0):=(blk_cell BK21.1 0).trans rfl;have hfz197_0:=blk_frozen BK21.1 0;have hcz198_0 : w192.cell? ⟨gb17,0,none⟩ = some (.slice Ao186 t14.length co186):=(blk_cell BK17.1 0).trans rfl;have hfz198_0:=blk_frozen BK17.1 0) | ((with_reducible refine gate_callee (f:=34) rfl ?_);refine goesL_ (some 39) rfl rfl Try.func34 (by kernel_rfl) rfl #[.agg #[.slice Ao186 t14.length co186],.agg #[.slice Ao193 t18.length co193],.int .i64 a2] rfl lm_ ?_;(with_reducible refine (impl_ContextChain.calls _ _ t14 _ _ t18 a2 t22 _ ?side1 ?side2 ?side3 ?side4 A25.1).mono ?_);(case side1=>refine (Kd.R_reads' (e:=106) (base:=w.heap.size) (ok:=fun k_=>(True ∧ some k_ ≠ (.slice Ao180 t5.length co180 : Value).ownBlock)) (n:=t14.length) (c:=co186) ?_).2.2;exact (by (with_reducible repeat (first | apply Kd.R_alloc | apply Kd.R_drewN | apply Kd.R_drew));exact (Kd.R_mono (Kd.R_far (p:=⟨gb21,0,none⟩) (Kd.R_types HO16.1 BK21.1 (by decide)) (fun _ hk=>hk.2) (.slice Ao193 t18.length co193)) (fun _ h_=>h_.1))));(case side2=>exact (Kd.R_reads' HO16.1).2.1);(case side3=>refine (Kd.R_reads' (e:=79) (base:=w.heap.size) (ok:=fun k_=>(True ∧ some k_ ≠ (.slice Ao181 t8.length co181 : Value).ownBlock)) (n:=t18.length) (c:=co193) ?_).2.2;exact (by (with_reducible repeat (first | apply Kd.R_alloc | apply Kd.R_drewN | apply Kd.R_drew));exact (Kd.R_mono (Kd.R_far (p:=⟨gb21,0,none⟩) (Kd.R_types HO20.1 BK21.1 (by decide)) (fun _ hk=>hk.2) (.slice Ao193 t18.length co193)) (fun _ h_=>h_.1))));(case side4=>exact (Kd.R_reads' HO20.1).2.1);rintro e w199 ⟨v23,rfl,ho0,hb⟩;refine ⟨_,rfl,?_⟩;have n0_:=a0_ (Kd.R_below (by (with_reducible repeat (first | apply Kd.R_alloc | apply Kd.R_drewN | apply Kd.R_drew));exact (Kd.R_mono (Kd.R_far (p:=⟨gb21,0,none⟩) (Kd.R_types HO7.1 BK21.1 (by decide)) (fun _ hk=>hk.2) (.slice Ao193 t18.length co193)) (fun _ h_=>h_.1))) hb);have n1_:=a0_ (Kd.R_below (by (with_reducible repeat (first | apply Kd.R_alloc | apply Kd.R_drewN | apply Kd.R_drew));exact (Kd.R_mono (Kd.R_far (p:=⟨gb21,0,none⟩) (Kd.R_types HO10.1 BK21.1 (by decide)) (fun _ hk=>hk.2) (.slice Ao193 t18.length co193)) (fun _ h_=>h_.1))) hb);have n2_:=a0_ (Kd.R_elder' (by (with_reducible repeat (first | apply Kd.R_alloc | apply Kd.R_drewN | apply Kd.R_drew));exact (Kd.R_mono (Kd.R_far (p:=⟨gb21,0,none⟩) (Kd.R_types HO13.1 BK21.1 (by decide)) (fun _ hk=>hk.2) (.slice Ao193 t18.length co193)) (fun _ h_=>h_.1))) (Kd.R_base ho0) hb);have n3_:=a0_ (Kd.R_below (by (with_reducible repeat (first | apply Kd.R_alloc | apply Kd.R_drewN | apply Kd.R_drew));exact (Kd.R_mono (Kd.R_far (p:=⟨gb21,0,none⟩) (Kd.R_types HO16.1 BK21.1 (by decide)) (fun _ hk=>hk.2) (.slice Ao193 t18.length co193)) (fun _ h_=>h_.1))) hb);have n4_:=a0_ (Kd.R_below (by (with_reducible repeat (first | apply Kd.R_alloc | apply Kd.R_drewN | apply Kd.R_drew));exact (Kd.R_mono (Kd.R_far (p:=⟨gb21,0,none⟩) (Kd.R_types HO20.1 BK21.1 (by decide)) (fun _ hk=>hk.2) (.slice Ao193 t18.length co193)) (fun _ h_=>h_.1))) hb);have n5_:=a0_ (Kd.R_lower (Kd.R_new' ho0 (Kd.R_lt (by (with_reducible repeat (first | apply Kd.R_alloc | apply Kd.R_drewN | apply Kd.R_drew));exact (Kd.R_mono (Kd.R_far (p:=⟨gb21,0,none⟩) (Kd.R_types HO13.1 BK21.1 (by decide)) (fun _ hk=>hk.2) (.slice Ao193 t18.length co193)) (fun _ h_=>h_.1))))) (below_size hb_));have n6_:=kf_ BK1 NB1_21 hb;have n7_:=kf_ BK2 NB2_21 hb;have n8_:=kf_ BK17 NB17_21 hb;have n9_:=a0_ (blk_below (g:=gb21) (o:=.cells #[.slice Ao193 t18.length co193] 37 (0,0)) (by (with_reducible repeat (first | refine blk_drewN ?_ _ | refine blk_drew ?_ | refine blk_alloc ?_ _));refine blk_put (cs:=#[.slice none 0 0]) ?_ 0 _ rfl;(with_reducible repeat (first | refine blk_drewN ?_ _ | refine blk_drew ?_ | refine blk_alloc ?_ _));exact BK21.1) hb);have n10_:=a0_ (below_step hb_ hb);clear HO7 HO10;clear HO13 HO16;clear HO20 BK1;clear BK2 BK17;clear BK21 HB;have HO7:=n0_;have HO10:=n1_;have HO13:=n2_;have HO16:=n3_;have HO20:=n4_;have HO24:=n5_;have BK1:=n6_;have BK2:=n7_;have BK17:=n8_;have BK21:=n9_;have HB:=n10_;clear n0_ n1_ n2_ n3_ n4_ n5_ n6_ n7_ n8_ n9_ n10_;(try clear hb);(try clear ho0);obtain ⟨Ao200,co200,eo200⟩:=Kd.R_slice HO24.1;subst eo200;obtain ⟨Ao201,co201,eo201⟩:=Kd.R_slice HO13.1;subst eo201) | ((with_reducible refine gate_callee (f:=28) rfl ?_);refine goesL_ (some 42) rfl rfl Try.func28 (by kernel_rfl) rfl #[.slice Ao200 t22.length co200,.slice Ao201 t11.length co201] rfl lm_ ?_;(with_reducible refine (laws_eqIntS.calls k _ _ t22 _ _ t11 true _ ?side1 ?side2 ?side3 ?side4 A26.1).mono ?_);(case side1=>exact cc_ (Kd.R_reads' HO24.1).2.2);(case side2=>exact (Kd.R_reads' HO24.1).2.1);(case side3=>exact cc_ (Kd.R_reads' HO13.1).2.2);(case side4=>exact (Kd.R_reads' HO13.1).2.1);rintro e w' ⟨rfl,⟨nd,rfl⟩⟩;refine ⟨_,rfl,?_⟩))
     (try (rw [drewN_self w199];generalize hq_ : World.drewN w199 _ = w199;have n0_ : Aside0 (Kd.R k79 79 w199 w.heap.size (fun k_=>(True ∧ some k_ ≠ (.slice Ao193 t18.length co193 : Value).ownBlock)) (.slice Ao181 t8.length co181) t8):=⟨by rw [← hq_];exact (rr_ HO10.1)⟩;have n1_ : Aside0 (Kd.R (Kd.int .i64) 3 w199 w.heap.size (fun k_=>(True ∧ some k_ ≠ (.slice Ao200 t22.length co200 : Value).ownBlock)) (.slice Ao201 t11.length co201) t11):=⟨by rw [← hq_];exact (rr_ HO13.1)⟩;have n2_ : Aside0 (Kd.R k106 106 w199 w.heap.size (fun k_=>(True ∧ some k_ ≠ (.slice Ao180 t5.length co180 : Value).ownBlock)) (.slice Ao186 t14.length co186) t14):=⟨by rw [← hq_];exact (rr_ HO16.1)⟩;have n3_ : Aside0 (Kd.R k79 79 w199 w.heap.size (fun k_=>(True ∧ some k_ ≠ (.slice Ao181 t8.length co181 : Value).ownBlock)) (.slice Ao193 t18.length co193) t18):=⟨by rw [← hq_];exact (rr_ HO20.1)⟩;have n4_ : Aside0 (Kd.R (Kd.int .i64) 3 w199 w.heap.size (fun k_=>(True ∧ some k_ ≠ (.slice Ao201 t11.length co201 : Value).ownBlock)) (.slice Ao200 t22.length co200) t22):=⟨by rw [← hq_];exact (rr_ HO24.1)⟩;have n5_ : Aside0 (Kd.R k106 106 w199 w.heap.size (fun k_=>(True ∧ some k_ ≠ (.slice Ao186 t14.length co186 : Value).ownBlock)) (.slice Ao180 t5.length co180) t5):=⟨by rw [← hq_];exact (rr_ HO7.1)⟩;have n6_ : Aside0 (w199.heap[gb1]? = some (.cells #[.slice A0_0 l0_0.length c0_0] 24 (0,0))):=⟨by rw [← hq_];exact (bb_ BK1.1)⟩;have n7_ : Aside0 (w199.heap[gb17]? = some (.cells #[.slice Ao186 t14.length co186] 33 (0,0))):=⟨by rw [← hq_];exact (bb_ BK17.1)⟩;have n8_ : Aside0 (w199.heap[gb2]? = some (.cells #[.slice A1_0 l1_0.length c1_0] 27 (0,0))):=⟨by rw [← hq_];exact (bb_ BK2.1)⟩;have n9_ : Aside0 (w199.heap[gb21]? = some (.cells #[.slice Ao193 t18.length co193] 37 (0,0))):=⟨by rw [← hq_];exact (bb_ BK21.1)⟩;have n10_ : Aside0 (Below w.heap.size w w199):=⟨by rw [← hq_];exact hb_⟩;clear HO10 HO13 HO16 HO20 HO24 HO7 BK1 BK17 BK2 BK21 HB hq_;have HO10:=n0_;have HO13:=n1_;have HO16:=n2_;have HO20:=n3_;have HO24:=n4_;have HO7:=n5_;have BK1:=n6_;have BK17:=n7_;have BK2:=n8_;have BK21:=n9_;have HB:=n10_;clear n0_ n1_ n2_ n3_ n4_ n5_ n6_ n7_ n8_ n9_ n10_))
     have n0_:=a0_ (Kd.R_drew HO7.1)
     have n1_:=a0_ (Kd.R_drew HO10.1)
     have n2_:=a0_ (Kd.R_drew HO13.1)
     have n3_:=a0_ (Kd.R_drew HO16.1)
     have n4_:=a0_ (Kd.R_drew HO20.1)
     have n5_:=a0_ (Kd.R_drew HO24.1)
     have n6_:=a0_ (blk_drew BK1.1)
     have n7_:=a0_ (blk_drew BK2.1)
     have n8_:=a0_ (blk_drew BK17.1)
     have n9_:=a0_ (blk_drew BK21.1)
     have n10_:=a0_ (below_drew1 HB.1)
     clear HO7
     clear HO10
     clear HO13
     clear HO16
     clear HO20
     clear HO24
     clear BK1
     clear BK2
     clear BK17
     clear BK21
     clear HB
     have HO7:=n0_
     have HO10:=n1_
     have HO13:=n2_
     have HO16:=n3_
     have HO20:=n4_
     have HO24:=n5_
     have BK1:=n6_
     have BK2:=n7_
     have BK17:=n8_
     have BK21:=n9_
     have HB:=n10_
     clear n0_ n1_ n2_ n3_ n4_ n5_ n6_ n7_ n8_ n9_ n10_
     refine start_ (n:=5) (S:=fun w'=>w'.cell? ⟨gb17,0,none⟩ = some (.slice Ao186 t14.length co186) ∧ w'.cell? ⟨gb1,0,none⟩ = some (.slice A0_0 l0_0.length c0_0)) (ds:=[]) #[false,false,false,false,false] (by kernel_rfl) rfl rfl ⟨(blk_cell BK17.1 0).trans rfl,(blk_cell BK1.1 0).trans rfl⟩ (fun hHeld=>?_)
     generalize w199.drew = w202 at HO7 HO10 HO13 HO16 HO20 HO24 BK1 BK2 BK17 BK21 HB hHeld ⊢
     refine take_ (i:=0) (N:=some 44) (v:=?_) (a':=?_) #[true,false,false,false,false] rfl rfl (by kernel_rfl) (fun _ _ _ h=>h) (Or.inl ⟨by rfl,?_⟩) hHeld ?_ ?_
     rotate_left
     ·rintro w' ⟨s0,s1⟩
      go_simp
      with_reducible rfl
     rotate_left
     ·simp only [Act.put,s1_,s2_,s3_,i64_w,i32_w]
      rfl
     refine take_ (i:=1) (N:=some 45) (v:=?_) (a':=?_) #[true,true,false,false,false] rfl rfl (by kernel_rfl) (fun _ _ _ h=>h) (Or.inl ⟨by rfl,?_⟩) hHeld ?_ ?_
     rotate_left
     ·rintro w' ⟨s0,s1⟩
      go_simp
      with_reducible rfl
     rotate_left
     ·simp only [Act.put,s1_,s2_,s3_,i64_w,i32_w]
      rfl
     refine one_ (i:=2) (N:=some 46) #[true,true,true,false,false] rfl rfl (by kernel_rfl) (by decide) (fun K hK=>?_)
     refine goes_ Try.func17 (by kernel_rfl) rfl #[.agg #[.slice A0_0 l0_0.length c0_0]] (by rfl) rfl rfl lm_ ?_
     with_reducible refine (laws_toTree.calls k _ _ l0_0 t26 _ ?side1 ?side2 A28.1).mono ?_
     (case side1=>exact cc_ (Kd.C_below HR0_0.1 HB.1))
     (case side2=>exact HC0_0.1)
     rintro e w203 ⟨v27,rfl,ho0,hb⟩
     refine ⟨_,rfl,?_⟩
     have n0_:=a0_ (Kd.R_elder' (rr_ HO7.1) (Kd.R_base ho0) hb)
     have n1_:=rb_ HO10 hb
     have n2_:=rb_ HO13 hb
     have n3_:=a0_ (Kd.R_elder' (rr_ HO16.1) (Kd.R_base ho0) hb)
     have n4_:=rb_ HO20 hb
     have n5_:=rb_ HO24 hb
     have n6_:=a0_ (Kd.R_lower (Kd.R_new' (Kd.R_new' ho0 (Kd.R_lt (rr_ HO7.1))) (Kd.R_lt (rr_ HO16.1))) (below_size hb_))
     have n7_:=kb_ BK1 hb
     have n8_:=kb_ BK2 hb
     have n9_:=kb_ BK17 hb
     have n10_:=kb_ BK21 hb
     have n11_:=a0_ (below_step hb_ hb)
     clear HO7
     clear HO10
     clear HO13
     clear HO16
     clear HO20
     clear HO24
     clear BK1
     clear BK2
     clear BK17
     clear BK21
     clear HB
     have HO7:=n0_
     have HO10:=n1_
     have HO13:=n2_
     have HO16:=n3_
     have HO20:=n4_
     have HO24:=n5_
     have HO28:=n6_
     have BK1:=n7_
     have BK2:=n8_
     have BK17:=n9_
     have BK21:=n10_
     have HB:=n11_
     clear n0_ n1_ n2_ n3_ n4_ n5_ n6_ n7_ n8_ n9_ n10_ n11_
     (try clear hb)
     (try clear hb2)
     (try clear hk)
     (try clear hi)
     (try clear ho0)
     obtain ⟨Ao204,co204,eo204⟩:=Kd.R_slice HO28.1
     (first | subst eo204 | (injection eo204 with f1_ f2_ f3_;have f4_:=f1_.symm;have f5_:=f3_.symm;clear f1_ f2_ f3_;subst f4_;subst f5_))
     refine hK.out _ _ ⟨(blk_cell BK17.1 0).trans rfl,(blk_cell BK1.1 0).trans rfl⟩ (fun hHeld=>?_)
     clear hK K
     refine norm_ (a':=?_) ?_ ?_
     rotate_left
     ·show Act.put _ (some 46) _ = _
      simp only [Act.put,s1_,s2_,s3_,i64_w,i32_w]
      rfl
     refine one_ (i:=3) (N:=some 47) #[true,true,true,true,false] rfl rfl (by kernel_rfl) (by decide) (fun K hK=>?_)
     refine goes_ Try.func20 (by kernel_rfl) rfl #[.agg #[.slice Ao186 t14.length co186],.agg #[.slice Ao204 t26.length co204]] (by rfl) rfl rfl lm_ ?_
     with_reducible refine (laws_eqTree.calls k _ _ t14 _ _ t26 false _ ?side1 ?side2 ?side3 ?side4 A29.1).mono ?_
     (case side1=>exact cc_ (Kd.R_reads' HO16.1).2.2)
     (case side2=>exact (Kd.R_reads' HO16.1).2.1)
     (case side3=>exact cc_ (Kd.R_reads' HO28.1).2.2)
     (case side4=>exact (Kd.R_reads' HO28.1).2.1)
     rintro e w205 ⟨rfl,hb⟩
     refine ⟨_,rfl,?_⟩
     have n0_:=rb_ HO7 hb
     have n1_:=rb_ HO10 hb
     have n2_:=rb_ HO13 hb
     have n3_:=rb_ HO16 hb
     have n4_:=rb_ HO20 hb
     have n5_:=rb_ HO24 hb
     have n6_:=rb_ HO28 hb
     have n7_:=kb_ BK1 hb
     have n8_:=kb_ BK2 hb
     have n9_:=kb_ BK17 hb
     have n10_:=kb_ BK21 hb
     have n11_:=a0_ (below_step hb_ hb)
     clear HO7
     clear HO10
     clear HO13
     clear HO16
     clear HO20
     clear HO24
     clear HO28
     clear BK1
     clear BK2
     clear BK17
     clear BK21
     clear HB
     have HO7:=n0_
     have HO10:=n1_
     have HO13:=n2_
     have HO16:=n3_
     have HO20:=n4_
     have HO24:=n5_
     have HO28:=n6_
     have BK1:=n7_
     have BK2:=n8_
     have BK17:=n9_
     have BK21:=n10_
     have HB:=n11_
     clear n0_ n1_ n2_ n3_ n4_ n5_ n6_ n7_ n8_ n9_ n10_ n11_
     (try clear hb)
     (try clear hb2)
     (try clear hk)
     (try clear hi)
     refine hK.out _ _ ⟨(blk_cell BK17.1 0).trans rfl,(blk_cell BK1.1 0).trans rfl⟩ (fun hHeld=>?_)
     clear hK K
     refine norm_ (a':=?_) ?_ ?_
     rotate_left
     ·show Act.put _ (some 47) _ = _
      simp only [Act.put,s1_,s2_,s3_,i64_w,i32_w]
      rfl
     refine pure_ (i:=4) (N:=some 48) (v:=?_) (a':=?_) #[true,true,true,true,true] rfl rfl (by kernel_rfl) (fun _ _ _ h=>h) (Or.inl ⟨by rfl,?_⟩) ?_ ?_
     rotate_left
     ·intro w'
      go_simp
      with_reducible rfl
     rotate_left
     ·simp only [Act.put,s1_,s2_,s3_,i64_w,i32_w]
      rfl
     refine done_ (by kernel_rfl) ?_
     try go_wp2
     go_ret
     exact ⟨by first | rfl | (simp [errW_none,errW_some] <;> rfl) | (simp [*,errW_none,errW_some] <;> rfl),hb_⟩
   ·replace c27:=Bool.eq_false_iff.mpr c27
    subst c27
    have H1 : (some false) = some r:=by rw [if_neg (show ¬ (false = true) by decide)] at H;exact H
    clear H
    have H:=H1
    clear H1
    obtain rfl:=Option.some.inj H
    go_enter Try.func7,Try.ntmps7
    try go_wp2_with (first | ((with_reducible refine gate_dst (N:=3) rfl ?_);refine box_event ?hg (N:=3) ?hd (cs:=#[.slice A0_0 l0_0.length c0_0]) (t:=24) ?hr ?_;(case hd=>rfl);(case hg=>rfl);(case hr=>first | (go_simp;done) | (go_simp;rfl));intro gb1 hg w206 hbox hb;have BK1:=a0_ (hbox);have GW1:=a0_ ((by rw [hg];exact (below_size hb_) : w.heap.size ≤ gb1));have GE1:=a0_ ((by rw [hg];exact (below_size hb_) : w.heap.size ≤ gb1));replace HB:=a0_ (below_step hb_ hb);clear hb hbox hg) | ((with_reducible refine gate_dst (N:=4) rfl ?_);refine box_event ?hg (N:=4) ?hd (cs:=#[.slice A1_0 l1_0.length c1_0]) (t:=27) ?hr ?_;(case hd=>rfl);(case hg=>rfl);(case hr=>first | (go_simp;done) | (go_simp;rfl));intro gb2 hg w207 hbox hb;have n0_:=kb_ BK1 hb;have n1_:=a0_ (below_step hb_ hb);have n2_:=a0_ (hbox);have n3_:=a0_ ((by rw [hg];exact (below_size hb_) : w.heap.size ≤ gb2));have n4_:=a0_ ((by rw [hg];exact (below_size hb_) : w.heap.size ≤ gb2));have n5_:=a0_ ((by rw [hg];exact Nat.ne_of_lt (blk_lt (bb_ BK1.1)) : gb1 ≠ gb2));have n6_:=a0_ ((by rw [hg];exact Nat.ne_of_gt (blk_lt (bb_ BK1.1)) : gb2 ≠ gb1));clear BK1 HB;have BK1:=n0_;have HB:=n1_;have BK2:=n2_;have GW2:=n3_;have GE2:=n4_;have NB1_2:=n5_;have NB2_1:=n6_;clear n0_ n1_ n2_ n3_ n4_ n5_ n6_;clear hb hbox hg;have hnb208:=NB1_2.1;have hnc208:=NB2_1.1;have hcz209_0 : w207.cell? ⟨gb1,0,none⟩ = some (.slice A0_0 l0_0.length c0_0):=(blk_cell BK1.1 0).trans rfl;have hfz209_0:=blk_frozen BK1.1 0) | ((with_reducible refine gate_callee (f:=14) rfl ?_);refine goesL_ (some 18) rfl rfl Try.func14 (by kernel_rfl) rfl #[.agg #[.slice A0_0 l0_0.length c0_0],.int .i64 1048576] rfl lm_ ?_;(with_reducible refine (laws_szTree.calls k _ _ l0_0 1048576 t3 _ ?side1 ?side2 A4.1).mono ?_);(case side1=>exact cc_ (Kd.C_below HR0_0.1 HB.1));(case side2=>exact HC0_0.1);rintro e w210 ⟨rfl,hb⟩;refine ⟨_,rfl,?_⟩;replace BK1:=kb_ BK1 hb;replace BK2:=kb_ BK2 hb;replace HB:=a0_ (below_step hb_ hb);(try clear hb);have hcz211_0 : w210.cell? ⟨gb2,0,none⟩ = some (.slice A1_0 l1_0.length c1_0):=(blk_cell BK2.1 0).trans rfl;have hfz211_0:=blk_frozen BK2.1 0) | ((with_reducible refine gate_callee (f:=15) rfl ?_);refine goesL_ (some 23) rfl rfl Try.func15 (by kernel_rfl) rfl #[.agg #[.slice A1_0 l1_0.length c1_0],.int .i64 t3] rfl lm_ ?_;(with_reducible refine (laws_szHeap.calls _ _ l1_0 t3 t4 _ ?side1 ?side2 A11.1).mono ?_);(case side1=>exact cc_ (Kd.C_below HR1_0.1 HB.1));(case side2=>exact HC1_0.1);rintro e w212 ⟨rfl,hb⟩;refine ⟨_,rfl,?_⟩;replace BK1:=kb_ BK1 hb;replace BK2:=kb_ BK2 hb;replace HB:=a0_ (below_step hb_ hb);(try clear hb);(try clear hb2);(try clear hk);(try clear hi)))
    have n0_:=a0_ (blk_drew BK1.1)
    have n1_:=a0_ (blk_drew BK2.1)
    have n2_:=a0_ (below_drew1 HB.1)
    clear BK1
    clear BK2
    clear HB
    have BK1:=n0_
    have BK2:=n1_
    have HB:=n2_
    clear n0_ n1_ n2_
    refine start_ (n:=7) (S:=fun w'=>w'.cell? ⟨gb1,0,none⟩ = some (.slice A0_0 l0_0.length c0_0) ∧ w'.cell? ⟨gb2,0,none⟩ = some (.slice A1_0 l1_0.length c1_0)) (ds:=[]) #[false,false,false,false,false,false,false] (by kernel_rfl) rfl rfl ⟨(blk_cell BK1.1 0).trans rfl,(blk_cell BK2.1 0).trans rfl⟩ (fun hHeld=>?_)
    generalize w212.drew = w213 at BK1 BK2 HB hHeld ⊢
    refine pure_ (i:=4) (N:=some 30) (v:=?_) (a':=?_) #[false,false,false,false,true,false,false] rfl rfl (by kernel_rfl) (fun _ _ _ h=>h) (Or.inl ⟨by rfl,?_⟩) ?_ ?_
    rotate_left
    ·intro w'
     go_simp
     with_reducible rfl
    rotate_left
    ·simp only [Act.put,s1_,s2_,s3_,i64_w,i32_w]
     rfl
    refine take_ (i:=0) (N:=some 26) (v:=?_) (a':=?_) #[true,false,false,false,true,false,false] rfl rfl (by kernel_rfl) (fun _ _ _ h=>h) (Or.inl ⟨by rfl,?_⟩) hHeld ?_ ?_
    rotate_left
    ·rintro w' ⟨s0,s1⟩
     go_simp
     with_reducible rfl
    rotate_left
    ·simp only [Act.put,s1_,s2_,s3_,i64_w,i32_w]
     rfl
    refine take_ (i:=2) (N:=some 28) (v:=?_) (a':=?_) #[true,false,true,false,true,false,false] rfl rfl (by kernel_rfl) (fun _ _ _ h=>h) (Or.inl ⟨by rfl,?_⟩) hHeld ?_ ?_
    rotate_left
    ·rintro w' ⟨s0,s1⟩
     go_simp
     with_reducible rfl
    rotate_left
    ·simp only [Act.put,s1_,s2_,s3_,i64_w,i32_w]
     rfl
    refine one_ (i:=1) (N:=some 27) #[true,true,true,false,true,false,false] rfl rfl (by kernel_rfl) (by decide) (fun K hK=>?_)
    refine goes_ Try.func17 (by kernel_rfl) rfl #[.agg #[.slice A0_0 l0_0.length c0_0]] (by rfl) rfl rfl lm_ ?_
    with_reducible refine (laws_toTree.calls k _ _ l0_0 t5 _ ?side1 ?side2 A20.1).mono ?_
    (case side1=>exact cc_ (Kd.C_below HR0_0.1 HB.1))
    (case side2=>exact HC0_0.1)
    rintro e w214 ⟨v6,rfl,ho0,hb⟩
    refine ⟨_,rfl,?_⟩
    have n0_:=a0_ (Kd.R_lower ho0 (below_size hb_))
    have n1_:=kb_ BK1 hb
    have n2_:=kb_ BK2 hb
    have n3_:=a0_ (below_step hb_ hb)
    clear BK1
    clear BK2
    clear HB
    have HO7:=n0_
    have BK1:=n1_
    have BK2:=n2_
    have HB:=n3_
    clear n0_ n1_ n2_ n3_
    (try clear hb)
    (try clear hb2)
    (try clear hk)
    (try clear hi)
    (try clear ho0)
    refine hK.out _ _ ⟨(blk_cell BK1.1 0).trans rfl,(blk_cell BK2.1 0).trans rfl⟩ (fun hHeld=>?_)
    clear hK K
    refine norm_ (a':=?_) ?_ ?_
    rotate_left
    ·show Act.put _ (some 27) _ = _
     simp only [Act.put,s1_,s2_,s3_,i64_w,i32_w]
     rfl
    refine one_ (i:=3) (N:=some 29) #[true,true,true,true,true,false,false] rfl rfl (by kernel_rfl) (by decide) (fun K hK=>?_)
    refine goes_ Try.func18 (by kernel_rfl) rfl #[.agg #[.slice A1_0 l1_0.length c1_0]] (by rfl) rfl rfl lm_ ?_
    with_reducible refine (laws_toHeap.calls k _ _ l1_0 t8 _ ?side1 ?side2 A21.1).mono ?_
    (case side1=>exact cc_ (Kd.C_below HR1_0.1 HB.1))
    (case side2=>exact HC1_0.1)
    rintro e w215 ⟨v9,rfl,ho0,hb⟩
    refine ⟨_,rfl,?_⟩
    have n0_:=rb_ HO7 hb
    have n1_:=a0_ (Kd.R_lower ho0 (below_size hb_))
    have n2_:=kb_ BK1 hb
    have n3_:=kb_ BK2 hb
    have n4_:=a0_ (below_step hb_ hb)
    clear HO7
    clear BK1
    clear BK2
    clear HB
    have HO7:=n0_
    have HO10:=n1_
    have BK1:=n2_
    have BK2:=n3_
    have HB:=n4_
    clear n0_ n1_ n2_ n3_ n4_
    (try clear hb)
    (try clear hb2)
    (try clear hk)
    (try clear hi)
    (try clear ho0)
    obtain ⟨Ao216,co216,eo216⟩:=Kd.R_slice HO7.1
    (first | subst eo216 | (injection eo216 with f1_ f2_ f3_;have f4_:=f1_.symm;have f5_:=f3_.symm;clear f1_ f2_ f3_;subst f4_;subst f5_))
    obtain ⟨Ao217,co217,eo217⟩:=Kd.R_slice HO10.1
    (first | subst eo217 | (injection eo217 with f1_ f2_ f3_;have f4_:=f1_.symm;have f5_:=f3_.symm;clear f1_ f2_ f3_;subst f4_;subst f5_))
    refine hK.out _ _ ⟨(blk_cell BK1.1 0).trans rfl,(blk_cell BK2.1 0).trans rfl⟩ (fun hHeld=>?_)
    clear hK K
    refine norm_ (a':=?_) ?_ ?_
    rotate_left
    ·show Act.put _ (some 29) _ = _
     simp only [Act.put,s1_,s2_,s3_,i64_w,i32_w]
     rfl
    refine one_ (i:=5) (N:=some 31) #[true,true,true,true,true,true,false] rfl rfl (by kernel_rfl) (by decide) (fun K hK=>?_)
    refine goes_ Try.func33 (by kernel_rfl) rfl #[.agg #[.slice Ao216 t5.length co216],.agg #[.slice Ao217 t8.length co217],.int .i64 a2] (by rfl) rfl rfl lm_ ?_
    with_reducible refine (spec_ContextChain.calls k _ _ t5 _ _ t8 a2 t11 _ ?side1 ?side2 ?side3 ?side4 A22.1).mono ?_
    (case side1=>exact cc_ (Kd.R_reads' HO7.1).2.2)
    (case side2=>exact (Kd.R_reads' HO7.1).2.1)
    (case side3=>exact cc_ (Kd.R_reads' HO10.1).2.2)
    (case side4=>exact (Kd.R_reads' HO10.1).2.1)
    rintro e w218 ⟨v12,rfl,ho0,hb⟩
    refine ⟨_,rfl,?_⟩
    have n0_:=rb_ HO7 hb
    have n1_:=rb_ HO10 hb
    have n2_:=a0_ (Kd.R_lower ho0 (below_size hb_))
    have n3_:=kb_ BK1 hb
    have n4_:=kb_ BK2 hb
    have n5_:=a0_ (below_step hb_ hb)
    clear HO7
    clear HO10
    clear BK1
    clear BK2
    clear HB
    have HO7:=n0_
    have HO10:=n1_
    have HO13:=n2_
    have BK1:=n3_
    have BK2:=n4_
    have HB:=n5_
    clear n0_ n1_ n2_ n3_ n4_ n5_
    (try clear hb)
    (try clear hb2)
    (try clear hk)
    (try clear hi)
    (try clear ho0)
    refine hK.out _ _ ⟨(blk_cell BK1.1 0).trans rfl,(blk_cell BK2.1 0).trans rfl⟩ (fun hHeld=>?_)
    clear hK K
    refine norm_ (a':=?_) ?_ ?_
    rotate_left
    ·show Act.put _ (some 31) _ = _
     simp only [Act.put,s1_,s2_,s3_,i64_w,i32_w]
     rfl
    refine pure_ (i:=6) (N:=some 8) (v:=?_) (a':=?_) #[true,true,true,true,true,true,true] rfl rfl (by kernel_rfl) (fun _ _ _ h=>h) (Or.inl ⟨by rfl,?_⟩) ?_ ?_
    rotate_left
    ·intro w'
     go_simp
     with_reducible rfl
    rotate_left
    ·simp only [Act.put,s1_,s2_,s3_,i64_w,i32_w]
     rfl
    refine done_ (by kernel_rfl) ?_
    have hcz219_0 : w218.cell? ⟨gb1,0,none⟩ = some (.slice A0_0 l0_0.length c0_0):=(blk_cell BK1.1 0).trans rfl
    have hfz219_0:=blk_frozen BK1.1 0
    try go_wp2_with (first | ((with_reducible refine gate_callee (f:=17) rfl ?_);refine goesL_ (some 33) rfl rfl Try.func17 (by kernel_rfl) rfl #[.agg #[.slice A0_0 l0_0.length c0_0]] rfl lm_ ?_;(with_reducible refine (laws_toTree.calls k _ _ l0_0 t14 _ ?side1 ?side2 A23.1).mono ?_);(case side1=>exact cc_ (Kd.C_below HR0_0.1 HB.1));(case side2=>exact HC0_0.1);rintro e w220 ⟨v15,rfl,ho0,hb⟩;refine ⟨_,rfl,?_⟩;have n0_:=a0_ (Kd.R_elder' (rr_ HO7.1) (Kd.R_base ho0) hb);have n1_:=rb_ HO10 hb;have n2_:=rb_ HO13 hb;have n3_:=a0_ (Kd.R_lower (Kd.R_new' ho0 (Kd.R_lt (rr_ HO7.1))) (below_size hb_));have n4_:=kb_ BK1 hb;have n5_:=kb_ BK2 hb;have n6_:=a0_ (below_step hb_ hb);clear HO7 HO10;clear HO13 BK1;clear BK2 HB;have HO7:=n0_;have HO10:=n1_;have HO13:=n2_;have HO16:=n3_;have BK1:=n4_;have BK2:=n5_;have HB:=n6_;clear n0_ n1_ n2_ n3_ n4_ n5_ n6_;(try clear hb);(try clear ho0)) | ((with_reducible refine gate_dst (N:=9) rfl ?_);refine box_event ?hg (N:=9) ?hd (cs:=#[.slice none 0 0]) (t:=33) ?hr ?_;(case hd=>rfl);(case hg=>rfl);(case hr=>first | (go_simp;done) | (go_simp;rfl));intro gb17 hg w221 hbox hb;have n0_:=rb_ HO7 hb;have n1_:=rb_ HO10 hb;have n2_:=rb_ HO13 hb;have n3_:=rb_ HO16 hb;have n4_:=kb_ BK1 hb;have n5_:=kb_ BK2 hb;have n6_:=a0_ (below_step hb_ hb);have n7_:=a0_ (hbox);have n8_:=a0_ ((by rw [hg];exact (below_size hb_) : w.heap.size ≤ gb17));have n9_:=a0_ ((by rw [hg];exact (below_size hb_) : w.heap.size ≤ gb17));have n10_:=a0_ ((by rw [hg];exact Nat.ne_of_lt (blk_lt (bb_ BK1.1)) : gb1 ≠ gb17));have n11_:=a0_ ((by rw [hg];exact Nat.ne_of_gt (blk_lt (bb_ BK1.1)) : gb17 ≠ gb1));have n12_:=a0_ ((by rw [hg];exact Nat.ne_of_lt (blk_lt (bb_ BK2.1)) : gb2 ≠ gb17));have n13_:=a0_ ((by rw [hg];exact Nat.ne_of_gt (blk_lt (bb_ BK2.1)) : gb17 ≠ gb2));clear HO7 HO10;clear HO13 HO16;clear BK1 BK2 HB;have HO7:=n0_;have HO10:=n1_;have HO13:=n2_;have HO16:=n3_;have BK1:=n4_;have BK2:=n5_;have HB:=n6_;have BK17:=n7_;have GW17:=n8_;have GE17:=n9_;have NB1_17:=n10_;have NB17_1:=n11_;have NB2_17:=n12_;have NB17_2:=n13_;clear n0_ n1_ n2_ n3_ n4_ n5_ n6_ n7_ n8_ n9_ n10_ n11_ n12_ n13_;clear hb hbox hg;obtain ⟨Ao222,co222,eo222⟩:=Kd.R_slice HO16.1;subst eo222;have hnb223:=NB17_1.1;have hnc223:=NB1_17.1;have hnb224:=NB17_2.1;have hnc224:=NB2_17.1;have hcz225_0 : w221.cell? ⟨gb17,0,none⟩ = some (.slice none 0 0):=(blk_cell BK17.1 0).trans rfl;have hfz225_0:=blk_frozen BK17.1 0;have hcz226_0 : w221.cell? ⟨gb2,0,none⟩ = some (.slice A1_0 l1_0.length c1_0):=(blk_cell BK2.1 0).trans rfl;have hfz226_0:=blk_frozen BK2.1 0) | ((with_reducible refine gate_callee (f:=18) rfl ?_);refine goesL_ (some 35) rfl rfl Try.func18 (by kernel_rfl) rfl #[.agg #[.slice A1_0 l1_0.length c1_0]] rfl lm_ ?_;(with_reducible refine (laws_toHeap.calls k _ _ l1_0 t18 _ ?side1 ?side2 A24.1).mono ?_);(case side1=>exact Kd.C_below HR1_0.1 hb_);(case side2=>exact HC1_0.1);rintro e w227 ⟨v19,rfl,ho0,hb⟩;refine ⟨_,rfl,?_⟩;have n0_:=a0_ (Kd.R_below (by (with_reducible repeat (first | apply Kd.R_alloc | apply Kd.R_drewN | apply Kd.R_drew));exact (Kd.R_mono (Kd.R_far (p:=⟨gb17,0,none⟩) (Kd.R_types HO7.1 BK17.1 (by decide)) (fun _ hk=>hk.2) (.slice Ao222 t14.length co222)) (fun _ h_=>h_.1))) hb);have n1_:=a0_ (Kd.R_elder' (by (with_reducible repeat (first | apply Kd.R_alloc | apply Kd.R_drewN | apply Kd.R_drew));exact (Kd.R_mono (Kd.R_far (p:=⟨gb17,0,none⟩) (Kd.R_types HO10.1 BK17.1 (by decide)) (fun _ hk=>hk.2) (.slice Ao222 t14.length co222)) (fun _ h_=>h_.1))) (Kd.R_base ho0) hb);have n2_:=a0_ (Kd.R_below (by (with_reducible repeat (first | apply Kd.R_alloc | apply Kd.R_drewN | apply Kd.R_drew));exact (Kd.R_mono (Kd.R_far (p:=⟨gb17,0,none⟩) (Kd.R_types HO13.1 BK17.1 (by decide)) (fun _ hk=>hk.2) (.slice Ao222 t14.length co222)) (fun _ h_=>h_.1))) hb);have n3_:=a0_ (Kd.R_below (by (with_reducible repeat (first | apply Kd.R_alloc | apply Kd.R_drewN | apply Kd.R_drew));exact (Kd.R_mono (Kd.R_far (p:=⟨gb17,0,none⟩) (Kd.R_types HO16.1 BK17.1 (by decide)) (fun _ hk=>hk.2) (.slice Ao222 t14.length co222)) (fun _ h_=>h_.1))) hb);have n4_:=a0_ (Kd.R_lower (Kd.R_new' ho0 (Kd.R_lt (by (with_reducible repeat (first | apply Kd.R_alloc | apply Kd.R_drewN | apply Kd.R_drew));exact (Kd.R_mono (Kd.R_far (p:=⟨gb17,0,none⟩) (Kd.R_types HO10.1 BK17.1 (by decide)) (fun _ hk=>hk.2) (.slice Ao222 t14.length co222)) (fun _ h_=>h_.1))))) (below_size hb_));have n5_:=kf_ BK1 NB1_17 hb;have n6_:=kf_ BK2 NB2_17 hb;have n7_:=a0_ (blk_below (g:=gb17) (o:=.cells #[.slice Ao222 t14.length co222] 33 (0,0)) (by (with_reducible repeat (first | refine blk_drewN ?_ _ | refine blk_drew ?_ | refine blk_alloc ?_ _));refine blk_put (cs:=#[.slice none 0 0]) ?_ 0 _ rfl;(with_reducible repeat (first | refine blk_drewN ?_ _ | refine blk_drew ?_ | refine blk_alloc ?_ _));exact BK17.1) hb);have n8_:=a0_ (below_step hb_ hb);clear HO7 HO10;clear HO13 HO16;clear BK1 BK2;clear BK17 HB;have HO7:=n0_;have HO10:=n1_;have HO13:=n2_;have HO16:=n3_;have HO20:=n4_;have BK1:=n5_;have BK2:=n6_;have BK17:=n7_;have HB:=n8_;clear n0_ n1_ n2_ n3_ n4_ n5_ n6_ n7_ n8_;(try clear hb);(try clear ho0)) | ((with_reducible refine gate_dst (N:=10) rfl ?_);refine box_event ?hg (N:=10) ?hd (cs:=#[.slice none 0 0]) (t:=37) ?hr ?_;(case hd=>rfl);(case hg=>rfl);(case hr=>first | (go_simp;done) | (go_simp;rfl));intro gb21 hg w228 hbox hb;have n0_:=rb_ HO7 hb;have n1_:=rb_ HO10 hb;have n2_:=rb_ HO13 hb;have n3_:=rb_ HO16 hb;have n4_:=rb_ HO20 hb;have n5_:=kb_ BK1 hb;have n6_:=kb_ BK2 hb;have n7_:=kb_ BK17 hb;have n8_:=a0_ (below_step hb_ hb);have n9_:=a0_ (hbox);have n10_:=a0_ ((by rw [hg];exact (below_size hb_) : w.heap.size ≤ gb21));have n11_:=a0_ ((by rw [hg];exact (below_size hb_) : w.heap.size ≤ gb21));have n12_:=a0_ ((by rw [hg];exact Nat.ne_of_lt (blk_lt (bb_ BK1.1)) : gb1 ≠ gb21));have n13_:=a0_ ((by rw [hg];exact Nat.ne_of_gt (blk_lt (bb_ BK1.1)) : gb21 ≠ gb1));have n14_:=a0_ ((by rw [hg];exact Nat.ne_of_lt (blk_lt (bb_ BK2.1)) : gb2 ≠ gb21));have n15_:=a0_ ((by rw [hg];exact Nat.ne_of_gt (blk_lt (bb_ BK2.1)) : gb21 ≠ gb2));have n16_:=a0_ ((by rw [hg];exact Nat.ne_of_lt (blk_lt (bb_ BK17.1)) : gb17 ≠ gb21));have n17_:=a0_ ((by rw [hg];exact Nat.ne_of_gt (blk_lt (bb_ BK17.1)) : gb21 ≠ gb17));clear HO7 HO10;clear HO13 HO16;clear HO20 BK1;clear BK2 BK17 HB;have HO7:=n0_;have HO10:=n1_;have HO13:=n2_;have HO16:=n3_;have HO20:=n4_;have BK1:=n5_;have BK2:=n6_;have BK17:=n7_;have HB:=n8_;have BK21:=n9_;have GW21:=n10_;have GE21:=n11_;have NB1_21:=n12_;have NB21_1:=n13_;have NB2_21:=n14_;have NB21_2:=n15_;have NB17_21:=n16_;have NB21_17:=n17_;clear n0_ n1_ n2_ n3_ n4_ n5_ n6_ n7_ n8_ n9_ n10_ n11_ n12_ n13_ n14_ n15_ n16_ n17_;clear hb hbox hg;obtain ⟨Ao229,co229,eo229⟩:=Kd.R_slice HO20.1;subst eo229;have hnb230:=NB21_1.1;have hnc230:=NB1_21.1;have hnb231:=NB21_2.1;have hnc231:=NB2_21.1;have hnb232:=NB21_17.1;have hnc232:=NB17_21.1;have hcz233_0 : w228.cell? ⟨gb21,0,none⟩ = some (.slice none 0 0):=(blk_cell BK21.1 0).trans rfl;have hfz233_0:=blk_frozen BK21.1 0;have hcz234_0 : w228.cell? ⟨gb17,0,none⟩ = some (.slice Ao222 t14.length co222):=(blk_cell BK17.1 0).trans rfl;have hfz234_0:=blk_frozen BK17.1 0) | ((with_reducible refine gate_callee (f:=34) rfl ?_);refine goesL_ (some 39) rfl rfl Try.func34 (by kernel_rfl) rfl #[.agg #[.slice Ao222 t14.length co222],.agg #[.slice Ao229 t18.length co229],.int .i64 a2] rfl lm_ ?_;(with_reducible refine (impl_ContextChain.calls _ _ t14 _ _ t18 a2 t22 _ ?side1 ?side2 ?side3 ?side4 A25.1).mono ?_);(case side1=>refine (Kd.R_reads' (e:=106) (base:=w.heap.size) (ok:=fun k_=>(True ∧ some k_ ≠ (.slice Ao216 t5.length co216 : Value).ownBlock)) (n:=t14.length) (c:=co222) ?_).2.2;exact (by (with_reducible repeat (first | apply Kd.R_alloc | apply Kd.R_drewN | apply Kd.R_drew));exact (Kd.R_mono (Kd.R_far (p:=⟨gb21,0,none⟩) (Kd.R_types HO16.1 BK21.1 (by decide)) (fun _ hk=>hk.2) (.slice Ao229 t18.length co229)) (fun _ h_=>h_.1))));(case side2=>exact (Kd.R_reads' HO16.1).2.1);(case side3=>refine (Kd.R_reads' (e:=79) (base:=w.heap.size) (ok:=fun k_=>(True ∧ some k_ ≠ (.slice Ao217 t8.length co217 : Value).ownBlock)) (n:=t18.length) (c:=co229) ?_).2.2;exact (by (with_reducible repeat (first | apply Kd.R_alloc | apply Kd.R_drewN | apply Kd.R_drew));exact (Kd.R_mono (Kd.R_far (p:=⟨gb21,0,none⟩) (Kd.R_types HO20.1 BK21.1 (by decide)) (fun _ hk=>hk.2) (.slice Ao229 t18.length co229)) (fun _ h_=>h_.1))));(case side4=>exact (Kd.R_reads' HO20.1).2.1);rintro e w235 ⟨v23,rfl,ho0,hb⟩;refine ⟨_,rfl,?_⟩;have n0_:=a0_ (Kd.R_below (by (with_reducible repeat (first | apply Kd.R_alloc | apply Kd.R_drewN | apply Kd.R_drew));exact (Kd.R_mono (Kd.R_far (p:=⟨gb21,0,none⟩) (Kd.R_types HO7.1 BK21.1 (by decide)) (fun _ hk=>hk.2) (.slice Ao229 t18.length co229)) (fun _ h_=>h_.1))) hb);have n1_:=a0_ (Kd.R_below (by (with_reducible repeat (first | apply Kd.R_alloc | apply Kd.R_drewN | apply Kd.R_drew));exact (Kd.R_mono (Kd.R_far (p:=⟨gb21,0,none⟩) (Kd.R_types HO10.1 BK21.1 (by decide)) (fun _ hk=>hk.2) (.slice Ao229 t18.length co229)) (fun _ h_=>h_.1))) hb);have n2_:=a0_ (Kd.R_elder' (by (with_reducible repeat (first | apply Kd.R_alloc | apply Kd.R_drewN | apply Kd.R_drew));exact (Kd.R_mono (Kd.R_far (p:=⟨gb21,0,none⟩) (Kd.R_types HO13.1 BK21.1 (by decide)) (fun _ hk=>hk.2) (.slice Ao229 t18.length co229)) (fun _ h_=>h_.1))) (Kd.R_base ho0) hb);have n3_:=a0_ (Kd.R_below (by (with_reducible repeat (first | apply Kd.R_alloc | apply Kd.R_drewN | apply Kd.R_drew));exact (Kd.R_mono (Kd.R_far (p:=⟨gb21,0,none⟩) (Kd.R_types HO16.1 BK21.1 (by decide)) (fun _ hk=>hk.2) (.slice Ao229 t18.length co229)) (fun _ h_=>h_.1))) hb);have n4_:=a0_ (Kd.R_below (by (with_reducible repeat (first | apply Kd.R_alloc | apply Kd.R_drewN | apply Kd.R_drew));exact (Kd.R_mono (Kd.R_far (p:=⟨gb21,0,none⟩) (Kd.R_types HO20.1 BK21.1 (by decide)) (fun _ hk=>hk.2) (.slice Ao229 t18.length co229)) (fun _ h_=>h_.1))) hb);have n5_:=a0_ (Kd.R_lower (Kd.R_new' ho0 (Kd.R_lt (by (with_reducible repeat (first | apply Kd.R_alloc | apply Kd.R_drewN | apply Kd.R_drew));exact (Kd.R_mono (Kd.R_far (p:=⟨gb21,0,none⟩) (Kd.R_types HO13.1 BK21.1 (by decide)) (fun _ hk=>hk.2) (.slice Ao229 t18.length co229)) (fun _ h_=>h_.1))))) (below_size hb_));have n6_:=kf_ BK1 NB1_21 hb;have n7_:=kf_ BK2 NB2_21 hb;have n8_:=kf_ BK17 NB17_21 hb;have n9_:=a0_ (blk_below (g:=gb21) (o:=.cells #[.slice Ao229 t18.length co229] 37 (0,0)) (by (with_reducible repeat (first | refine blk_drewN ?_ _ | refine blk_drew ?_ | refine blk_alloc ?_ _));refine blk_put (cs:=#[.slice none 0 0]) ?_ 0 _ rfl;(with_reducible repeat (first | refine blk_drewN ?_ _ | refine blk_drew ?_ | refine blk_alloc ?_ _));exact BK21.1) hb);have n10_:=a0_ (below_step hb_ hb);clear HO7 HO10;clear HO13 HO16;clear HO20 BK1;clear BK2 BK17;clear BK21 HB;have HO7:=n0_;have HO10:=n1_;have HO13:=n2_;have HO16:=n3_;have HO20:=n4_;have HO24:=n5_;have BK1:=n6_;have BK2:=n7_;have BK17:=n8_;have BK21:=n9_;have HB:=n10_;clear n0_ n1_ n2_ n3_ n4_ n5_ n6_ n7_ n8_ n9_ n10_;(try clear hb);(try clear ho0);obtain ⟨Ao236,co236,eo236⟩:=Kd.R_slice HO24.1;subst eo236;obtain ⟨Ao237,co237,eo237⟩:=Kd.R_slice HO13.1;subst eo237) | ((with_reducible refine gate_callee (f:=28) rfl ?_);refine goesL_ (some 42) rfl rfl Try.func28 (by kernel_rfl) rfl #[.slice Ao236 t22.length co236,.slice Ao237 t11.length co237] rfl lm_ ?_;(with_reducible refine (laws_eqIntS.calls k _ _ t22 _ _ t11 false _ ?side1 ?side2 ?side3 ?side4 A26.1).mono ?_);(case side1=>exact cc_ (Kd.R_reads' HO24.1).2.2);(case side2=>exact (Kd.R_reads' HO24.1).2.1);(case side3=>exact cc_ (Kd.R_reads' HO13.1).2.2);(case side4=>exact (Kd.R_reads' HO13.1).2.1);rintro e w' ⟨rfl,⟨nd,rfl⟩⟩;refine ⟨_,rfl,?_⟩))
    go_ret
    exact ⟨by first | rfl | (simp [errW_none,errW_some] <;> rfl) | (simp [*,errW_none,errW_some] <;> rfl),hb_⟩
end Go.Proofs.Ytfhcfhffmblacaa.P
namespace Go.Proofs.Ytfhcfhffmblacaa.Pure
open Go.RowKit Go.Proofs.Ytfhcfhffmblacaa.P
set_option linter.unusedVariables false
theorem FnExactContextChain (l0_0 : List S103) (l1_0 : List S109) (a2 : Int) (G0_0 : (l0_0.length ≤ maxLen ∧ ∀ x ∈ l0_0,(x.f0.size ≤ maxLen ∧ (Lit.int .i64 x.f1).wf = true))) (G1_0 : (l1_0.length ≤ maxLen ∧ ∀ x ∈ l1_0,((Lit.int .i64 x.f0).wf = true ∧ (Lit.int .i64 x.f1).wf = true ∧ (Lit.int .i64 x.f2).wf = true ∧ (Lit.int .i64 x.f3).wf = true ∧ True))) (w2 : (Lit.int .i64 a2).wf = true) : ∃ k,laws_FnExactContextChain.f k l0_0 l1_0 a2 = some true:=by
 have hmax : maxLen = 9223372036854775807:=by decide
 rw [hmax] at G0_0 G1_0
 refine Ev.out (F:=fun k=>laws_FnExactContextChain.f k l0_0 l1_0 a2) ?_
 unfold laws_FnExactContextChain.f
 obtain ⟨v0,hv0,hg0⟩:=laws_szTree_ev l0_0 1048576 (by omega) (by omega) G0_0.1 (fun x hx=>(G0_0.2 x hx).1)
 refine Ev.bind hv0 ?_
 by_cases hn0 : v0 < 0
 ·exact Ev.pos hn0 (Ev.const rfl)
 refine Ev.neg hn0 ?_
 obtain ⟨hva0,hl0,hs⟩:=hg0 (by omega)
 obtain ⟨v1,hv1,hg1⟩:=laws_szHeap_ev l1_0 v0 (by omega) (by omega) G1_0.1
 refine Ev.bind hv1 ?_
 by_cases hn1 : v1 < 0
 ·exact Ev.pos hn1 (Ev.const rfl)
 refine Ev.neg hn1 ?_
 obtain ⟨hva1,hl1⟩:=hg1 (by omega)
 have hT0:=laws_toTree_ev l0_0 (by omega)
 have hm0 : (l0_0.map toC).length ≤ 1048576:=by rw [List.length_map];omega
 have hT1:=laws_toHeap_ev l1_0 (by omega)
 have hm1 : (l1_0.map toFault).length ≤ 1048576:=by rw [List.length_map];omega
 have hsm:=smT_of hs
 have hS : Ev (fun k=>spec_ContextChain.f k (l0_0.map toC) (l1_0.map toFault) a2) (ctxP (l0_0.map toC) (l1_0.map toFault) a2):=spec_ContextChain_ev (l0_0.map toC) (l1_0.map toFault) a2 hsm (by omega) (by omega)
 have hG : Ev (fun k=>impl_ContextChain.f (l0_0.map toC) (l1_0.map toFault) a2) (ctxP (l0_0.map toC) (l1_0.map toFault) a2):=Ev.const (impl_ContextChain_ev (l0_0.map toC) (l1_0.map toFault) a2 hsm (by omega))
 have hrl:=ctxP_len (l0_0.map toC) (l1_0.map toFault) a2
 generalize ctxP (l0_0.map toC) (l1_0.map toFault) a2 = r at hS hG hrl
 have hE:=laws_eqIntS_ev r (by omega)
 obtain ⟨l',hM0⟩:=laws_markTree_ev (l0_0.map toC) (1) (by omega) (by omega)
 have hM1:=laws_markHeap_ev (l1_0.map toFault) (1 + 2 * (l0_0.map toC).length) (by omega) (by omega)
 have hm9:=laws_markIntS_ev r 1 (by omega) (by omega)
 have hh:=laws_heldIntS_ev 1 r.length (by omega) (by omega)
 refine Ev.bind hT0 (Ev.bind hT1 (Ev.bind hS (Ev.bind hT0 (Ev.bind hT1 (Ev.bind hG (Ev.bind hE (Ev.pos rfl ?_)))))))
 refine Ev.bind hT0 (Ev.bind (laws_eqTree_ev _ (by omega)) (Ev.pos rfl (Ev.bind hT1 (Ev.bind (laws_eqHeap_ev _ (by omega)) (Ev.pos rfl ?_)))))
 refine Ev.bind hM0 (Ev.bind hM1 (Ev.neg (by show ¬ (_ < (0 : Int));omega) (Ev.bind hE ?_)))
 refine Ev.succ ?_
 simp only [laws_FnExactContextChain.j0]
 refine Ev.neg (by decide) (Ev.bind hm9 (Ev.bind hh (Ev.neg (by omega) (Ev.pos rfl ?_))))
 exact Ev.bind hT0 (Ev.bind hT1 (Ev.bind hG (Ev.bind hE (Ev.pos rfl (Ev.bind hh (Ev.neg (by omega) (Ev.pos rfl (Ev.const rfl))))))))
end Go.Proofs.Ytfhcfhffmblacaa.Pure
