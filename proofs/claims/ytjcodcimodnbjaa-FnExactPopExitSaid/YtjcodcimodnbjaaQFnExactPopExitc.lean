/- Texts under the proof of FnExactPopExit: helper words, the functions' contracts and the plain laws. No condition. -/
import Derived.Test.YtjcodcimodnbjaaQFnExactPopExita
import Derived.Test.YtjcodcimodnbjaaQFnExactPopExitb
namespace Go.Proofs.Ytjcodcimodnbjaa.P
open Go.RowKit Go.Proofs.YtjcodcimodnbjaaW.PrintWords Go.Proofs.YtjcodcimodnbjaaW.PrintLast Go.Proofs.YtjcodcimodnbjaaW.PrintMore
attribute [local go_sem] max2_int min2_int max_two min_two max_three min_three max_four min_four
set_option linter.unusedVariables false
set_option linter.unusedSimpArgs false
mutual
def laws_FnExactPopExit.j0 : Nat → List (S27) → List (S38) → Bool → List (S38) → List (S38) → Bool → Bool → List (S73) → Int → Int → Int → List (S76) → Int → Int → Int → Option (Bool)
 | 0,_,_,_,_,_,_,_,_,_,_,_,_,_,_,_=>none
 | k + 1,x1,x6,x8,x10,x11,x13,x64,x2000,x18000,x18001,x18002,x22000,x33000,x33001,x33002=>if x64 = true then (some false) else ((laws_toTree.f k x2000).bind fun t35=>((laws_eqTree.f k x22000 t35).bind fun t38=>(if t38 = true then ((laws_toExitS.f k x1).bind fun t39=>((laws_eqExitS.f k x10 t39).bind fun t42=>(if t42 = true then ((laws_markTree.f k x22000 1).bind fun bt43=>((laws_markExitS.f k x10 bt43.1).bind fun bt45=>(if bt45.1 < 0 then (laws_FnExactPopExit.j1 k x1 x6 x8 x11 true x2000 x18000 x18001 x18002) else ((laws_eqExitS.f k x11 x6).bind fun t47=>(if t47 = true then ((laws_eqExit.f x33000 x33001 x33002 x18000 x18001 x18002).bind fun t48=>(if t48 = true then (laws_FnExactPopExit.j1 k x1 x6 x8 x11 (x13 != x8) x2000 x18000 x18001 x18002) else (laws_FnExactPopExit.j1 k x1 x6 x8 x11 true x2000 x18000 x18001 x18002))) else (laws_FnExactPopExit.j1 k x1 x6 x8 x11 true x2000 x18000 x18001 x18002)))))) else (some false)))) else (some false))))
def laws_FnExactPopExit.j1 : Nat → List (S27) → List (S38) → Bool → List (S38) → Bool → List (S73) → Int → Int → Int → Option (Bool)
 | 0,_,_,_,_,_,_,_,_,_=>none
 | k + 1,x1,x6,x8,x11,x99,x2000,x18000,x18001,x18002=>if x99 = true then (some false) else ((laws_markExitS.f k x11 1).bind fun bt49=>((laws_heldExitS.f k bt49.2 1).bind fun t51=>(if t51 < 0 then (some false) else (if t51 = bt49.1 then ((laws_toTree.f k x2000).bind fun t52=>((laws_toExitS.f k x1).bind fun t55=>((impl_PopExit.f k t52 t55).bind fun bt58=>((laws_eqExitS.f k bt58.1 x6).bind fun t66=>(if t66 = true then ((laws_eqExit.f bt58.2.1 bt58.2.2.1 bt58.2.2.2.1 x18000 x18001 x18002).bind fun t67=>(if t67 = true then (laws_FnExactPopExit.j2 k bt49.2 bt49.1 (bt58.2.2.2.2 != x8)) else (laws_FnExactPopExit.j2 k bt49.2 bt49.1 true))) else (laws_FnExactPopExit.j2 k bt49.2 bt49.1 true)))))) else (some false)))))
def laws_FnExactPopExit.j2 : Nat → List (S38) → Int → Bool → Option (Bool)
 | 0,_,_,_=>none
 | k + 1,x11,x15,x134=>if x134 = true then (some false) else ((laws_heldExitS.f k x11 1).bind fun t68=>(if t68 < 0 then (some false) else (if t68 = x15 then (some true) else (some false))))
end
def laws_FnExactPopExit.f (k : Nat) (l0_0 : List (S73)) (l1 : List (S27)) : Option (Bool):=(laws_szTree.f k l0_0 1048576).bind fun t2=>(if t2 < 0 then (some true) else ((laws_szExitS.f l1 t2).bind fun t3=>(if t3 < 0 then (some true) else ((laws_toTree.f k l0_0).bind fun t4=>((laws_toExitS.f k l1).bind fun t7=>((spec_PopExit.f k t4 t7).bind fun bt10=>((laws_toTree.f k l0_0).bind fun t18=>((laws_toExitS.f k l1).bind fun t22=>((impl_PopExit.f k t18 t22).bind fun bt25=>((laws_eqExitS.f k bt25.1 bt10.1).bind fun t33=>(if t33 = true then ((laws_eqExit.f bt25.2.1 bt25.2.2.1 bt25.2.2.2.1 bt10.2.1 bt10.2.2.1 bt10.2.2.2.1).bind fun t34=>(if t34 = true then (laws_FnExactPopExit.j0 k l1 bt10.1 bt10.2.2.2.2 t22 bt25.1 bt25.2.2.2.2 (bt25.2.2.2.2 != bt10.2.2.2.2) l0_0 bt10.2.1 bt10.2.2.1 bt10.2.2.2.1 t18 bt25.2.1 bt25.2.2.1 bt25.2.2.2.1) else (laws_FnExactPopExit.j0 k l1 bt10.1 bt10.2.2.2.2 t22 bt25.1 bt25.2.2.2.2 true l0_0 bt10.2.1 bt10.2.2.1 bt10.2.2.2.1 t18 bt25.2.1 bt25.2.2.1 bt25.2.2.2.1))) else (laws_FnExactPopExit.j0 k l1 bt10.1 bt10.2.2.2.2 t22 bt25.1 bt25.2.2.2.2 true l0_0 bt10.2.1 bt10.2.2.1 bt10.2.2.2.1 t18 bt25.2.1 bt25.2.2.1 bt25.2.2.2.1))))))))))))
theorem laws_FnExactPopExit.mono_l : ∀ k,(∀ y0 y1 y2 y3 y4 y5 y6 y7 y8 y9 y10 y11 y12 y13 y14,LeO (laws_FnExactPopExit.j0 k y0 y1 y2 y3 y4 y5 y6 y7 y8 y9 y10 y11 y12 y13 y14) (laws_FnExactPopExit.j0 (k + 1) y0 y1 y2 y3 y4 y5 y6 y7 y8 y9 y10 y11 y12 y13 y14)) ∧ (∀ y0 y1 y2 y3 y4 y5 y6 y7 y8,LeO (laws_FnExactPopExit.j1 k y0 y1 y2 y3 y4 y5 y6 y7 y8) (laws_FnExactPopExit.j1 (k + 1) y0 y1 y2 y3 y4 y5 y6 y7 y8)) ∧ (∀ y0 y1 y2,LeO (laws_FnExactPopExit.j2 k y0 y1 y2) (laws_FnExactPopExit.j2 (k + 1) y0 y1 y2))
 | 0=>⟨fun _ _ _ _ _ _ _ _ _ _ _ _ _ _ _ r h=>by simp [laws_FnExactPopExit.j0] at h,fun _ _ _ _ _ _ _ _ _ r h=>by simp [laws_FnExactPopExit.j1] at h,fun _ _ _ r h=>by simp [laws_FnExactPopExit.j2] at h⟩
 | k + 1=>by
  obtain ⟨ih0,ih1,ih2⟩:=laws_FnExactPopExit.mono_l k
  refine ⟨?_,?_,?_⟩
  ·intro y0 y1 y2 y3 y4 y5 y6 y7 y8 y9 y10 y11 y12 y13 y14
   unfold laws_FnExactPopExit.j0
   repeat' first
   | (with_reducible exact ih0 _ _ _ _ _ _ _ _ _ _ _ _ _ _ _)
   | (with_reducible exact ih1 _ _ _ _ _ _ _ _ _)
   | (with_reducible exact ih2 _ _ _)
   | (with_reducible exact impl_PopExit.mono _ _ _)
   | (with_reducible exact laws_eqExitS.mono _ _ _)
   | (with_reducible exact laws_eqTree.mono _ _ _)
   | (with_reducible exact laws_heldExitS.mono _ _ _)
   | (with_reducible exact laws_markExitS.mono _ _ _)
   | (with_reducible exact laws_markTree.mono _ _ _)
   | (with_reducible exact laws_szTree.mono _ _ _)
   | (with_reducible exact laws_toExitS.mono _ _)
   | (with_reducible exact laws_toTree.mono _ _)
   | (with_reducible exact spec_PopExit.mono _ _ _)
   | (with_reducible exact LeO.refl _)
   | (with_reducible exact LeO.none _)
   | (with_reducible refine LeO.ite ?_ ?_)
   | (with_reducible refine LeO.bind ?_ (fun _=>?_))
   | exact ih0 _ _ _ _ _ _ _ _ _ _ _ _ _ _ _
   | exact ih1 _ _ _ _ _ _ _ _ _
   | exact ih2 _ _ _
   | exact impl_PopExit.mono _ _ _
   | exact laws_eqExitS.mono _ _ _
   | exact laws_eqTree.mono _ _ _
   | exact laws_heldExitS.mono _ _ _
   | exact laws_markExitS.mono _ _ _
   | exact laws_markTree.mono _ _ _
   | exact laws_szTree.mono _ _ _
   | exact laws_toExitS.mono _ _
   | exact laws_toTree.mono _ _
   | exact spec_PopExit.mono _ _ _
   | exact LeO.none _
   | refine LeO.ite ?_ ?_
   | refine LeO.bind ?_ (fun _=>?_)
  ·intro y0 y1 y2 y3 y4 y5 y6 y7 y8
   unfold laws_FnExactPopExit.j1
   repeat' first
   | (with_reducible exact ih0 _ _ _ _ _ _ _ _ _ _ _ _ _ _ _)
   | (with_reducible exact ih1 _ _ _ _ _ _ _ _ _)
   | (with_reducible exact ih2 _ _ _)
   | (with_reducible exact impl_PopExit.mono _ _ _)
   | (with_reducible exact laws_eqExitS.mono _ _ _)
   | (with_reducible exact laws_eqTree.mono _ _ _)
   | (with_reducible exact laws_heldExitS.mono _ _ _)
   | (with_reducible exact laws_markExitS.mono _ _ _)
   | (with_reducible exact laws_markTree.mono _ _ _)
   | (with_reducible exact laws_szTree.mono _ _ _)
   | (with_reducible exact laws_toExitS.mono _ _)
   | (with_reducible exact laws_toTree.mono _ _)
   | (with_reducible exact spec_PopExit.mono _ _ _)
   | (with_reducible exact LeO.refl _)
   | (with_reducible exact LeO.none _)
   | (with_reducible refine LeO.ite ?_ ?_)
   | (with_reducible refine LeO.bind ?_ (fun _=>?_))
   | exact ih0 _ _ _ _ _ _ _ _ _ _ _ _ _ _ _
   | exact ih1 _ _ _ _ _ _ _ _ _
   | exact ih2 _ _ _
   | exact impl_PopExit.mono _ _ _
   | exact laws_eqExitS.mono _ _ _
   | exact laws_eqTree.mono _ _ _
   | exact laws_heldExitS.mono _ _ _
   | exact laws_markExitS.mono _ _ _
   | exact laws_markTree.mono _ _ _
   | exact laws_szTree.mono _ _ _
   | exact laws_toExitS.mono _ _
   | exact laws_toTree.mono _ _
   | exact spec_PopExit.mono _ _ _
   | exact LeO.none _
   | refine LeO.ite ?_ ?_
   | refine LeO.bind ?_ (fun _=>?_)
  ·intro y0 y1 y2
   unfold laws_FnExactPopExit.j2
   repeat' first
   | (with_reducible exact ih0 _ _ _ _ _ _ _ _ _ _ _ _ _ _ _)
   | (with_reducible exact ih1 _ _ _ _ _ _ _ _ _)
   | (with_reducible exact ih2 _ _ _)
   | (with_reducible exact impl_PopExit.mono _ _ _)
   | (with_reducible exact laws_eqExitS.mono _ _ _)
   | (with_reducible exact laws_eqTree.mono _ _ _)
   | (with_reducible exact laws_heldExitS.mono _ _ _)
   | (with_reducible exact laws_markExitS.mono _ _ _)
   | (with_reducible exact laws_markTree.mono _ _ _)
   | (with_reducible exact laws_szTree.mono _ _ _)
   | (with_reducible exact laws_toExitS.mono _ _)
   | (with_reducible exact laws_toTree.mono _ _)
   | (with_reducible exact spec_PopExit.mono _ _ _)
   | (with_reducible exact LeO.refl _)
   | (with_reducible exact LeO.none _)
   | (with_reducible refine LeO.ite ?_ ?_)
   | (with_reducible refine LeO.bind ?_ (fun _=>?_))
   | exact ih0 _ _ _ _ _ _ _ _ _ _ _ _ _ _ _
   | exact ih1 _ _ _ _ _ _ _ _ _
   | exact ih2 _ _ _
   | exact impl_PopExit.mono _ _ _
   | exact laws_eqExitS.mono _ _ _
   | exact laws_eqTree.mono _ _ _
   | exact laws_heldExitS.mono _ _ _
   | exact laws_markExitS.mono _ _ _
   | exact laws_markTree.mono _ _ _
   | exact laws_szTree.mono _ _ _
   | exact laws_toExitS.mono _ _
   | exact laws_toTree.mono _ _
   | exact spec_PopExit.mono _ _ _
   | exact LeO.none _
   | refine LeO.ite ?_ ?_
   | refine LeO.bind ?_ (fun _=>?_)
theorem laws_FnExactPopExit.mono : ∀ a0 a1 k,LeO (laws_FnExactPopExit.f k a0 a1) (laws_FnExactPopExit.f (k + 1) a0 a1):=by
 intro a0 a1 k
 obtain ⟨ih0,ih1,ih2⟩:=laws_FnExactPopExit.mono_l k
 unfold laws_FnExactPopExit.f
 repeat' first
   | (with_reducible exact ih0 _ _ _ _ _ _ _ _ _ _ _ _ _ _ _)
   | (with_reducible exact ih1 _ _ _ _ _ _ _ _ _)
   | (with_reducible exact ih2 _ _ _)
   | (with_reducible exact impl_PopExit.mono _ _ _)
   | (with_reducible exact laws_eqExitS.mono _ _ _)
   | (with_reducible exact laws_eqTree.mono _ _ _)
   | (with_reducible exact laws_heldExitS.mono _ _ _)
   | (with_reducible exact laws_markExitS.mono _ _ _)
   | (with_reducible exact laws_markTree.mono _ _ _)
   | (with_reducible exact laws_szTree.mono _ _ _)
   | (with_reducible exact laws_toExitS.mono _ _)
   | (with_reducible exact laws_toTree.mono _ _)
   | (with_reducible exact spec_PopExit.mono _ _ _)
   | (with_reducible exact LeO.refl _)
   | (with_reducible exact LeO.none _)
   | (with_reducible refine LeO.ite ?_ ?_)
   | (with_reducible refine LeO.bind ?_ (fun _=>?_))
   | exact ih0 _ _ _ _ _ _ _ _ _ _ _ _ _ _ _
   | exact ih1 _ _ _ _ _ _ _ _ _
   | exact ih2 _ _ _
   | exact impl_PopExit.mono _ _ _
   | exact laws_eqExitS.mono _ _ _
   | exact laws_eqTree.mono _ _ _
   | exact laws_heldExitS.mono _ _ _
   | exact laws_markExitS.mono _ _ _
   | exact laws_markTree.mono _ _ _
   | exact laws_szTree.mono _ _ _
   | exact laws_toExitS.mono _ _
   | exact laws_toTree.mono _ _
   | exact spec_PopExit.mono _ _ _
   | exact LeO.none _
   | refine LeO.ite ?_ ?_
   | refine LeO.bind ?_ (fun _=>?_)
set_option maxHeartbeats 8000000 in
set_option maxRecDepth 100000 in
theorem laws_FnExactPopExit.calls (k : Nat) (A0_0 : Option Addr) (c0_0 : Nat) (l0_0 : List (S73)) (A1 : Option Addr) (c1 : Nat) (l1 : List (S27)) (r : Bool) (w : World) (hr0_0 : Kd.C k73 w A0_0 l0_0.length l0_0) (hc0_0 : l0_0.length ≤ c0_0) (hr1 : Kd.C k27 w A1 l1.length l1) (hc1 : l1.length ≤ c1) (h : laws_FnExactPopExit.f k l0_0 l1 = some r) :
  Calls Try.prog 4 #[.agg #[.slice A0_0 l0_0.length c0_0],.slice A1 l1.length c1] w fun e w'=>e = .returned (.bool r) ∧ Below w.heap.size w w':=by
 have hu24:=Try.underlying24
 have hu38:=Try.underlying38
 have hu35:=Try.underlying35
 have HR0_0:=a0_ hr0_0
 have HC0_0:=a0_ hc0_0
 clear hr0_0 hc0_0
 have HR1:=a0_ hr1
 have HC1:=a0_ hc1
 clear hr1 hc1
 have HB:=a0_ (Below.refl w.heap.size w)
 have H : ((laws_szTree.f k l0_0 1048576).bind fun t2=>(if t2 < 0 then (some true) else ((laws_szExitS.f l1 t2).bind fun t3=>(if t3 < 0 then (some true) else ((laws_toTree.f k l0_0).bind fun t4=>((laws_toExitS.f k l1).bind fun t7=>((spec_PopExit.f k t4 t7).bind fun bt10=>((laws_toTree.f k l0_0).bind fun t18=>((laws_toExitS.f k l1).bind fun t22=>((impl_PopExit.f k t18 t22).bind fun bt25=>((laws_eqExitS.f k bt25.1 bt10.1).bind fun t33=>(if t33 = true then ((laws_eqExit.f bt25.2.1 bt25.2.2.1 bt25.2.2.2.1 bt10.2.1 bt10.2.2.1 bt10.2.2.2.1).bind fun t34=>(if t34 = true then (laws_FnExactPopExit.j0 k l1 bt10.1 bt10.2.2.2.2 t22 bt25.1 bt25.2.2.2.2 (bt25.2.2.2.2 != bt10.2.2.2.2) l0_0 bt10.2.1 bt10.2.2.1 bt10.2.2.2.1 t18 bt25.2.1 bt25.2.2.1 bt25.2.2.2.1) else (laws_FnExactPopExit.j0 k l1 bt10.1 bt10.2.2.2.2 t22 bt25.1 bt25.2.2.2.2 true l0_0 bt10.2.1 bt10.2.2.1 bt10.2.2.2.1 t18 bt25.2.1 bt25.2.2.1 bt25.2.2.2.1))) else (laws_FnExactPopExit.j0 k l1 bt10.1 bt10.2.2.2.2 t22 bt25.1 bt25.2.2.2.2 true l0_0 bt10.2.1 bt10.2.2.1 bt10.2.2.2.1 t18 bt25.2.1 bt25.2.2.1 bt25.2.2.2.1))))))))))))) = some r:=h
 clear h
 replace H:=Option.bind_eq_some_iff.mp H
 obtain ⟨t2,A30,H⟩:=H
 replace H : (if t2 < 0 then (some true) else ((laws_szExitS.f l1 t2).bind fun t3=>(if t3 < 0 then (some true) else ((laws_toTree.f k l0_0).bind fun t4=>((laws_toExitS.f k l1).bind fun t7=>((spec_PopExit.f k t4 t7).bind fun bt10=>((laws_toTree.f k l0_0).bind fun t18=>((laws_toExitS.f k l1).bind fun t22=>((impl_PopExit.f k t18 t22).bind fun bt25=>((laws_eqExitS.f k bt25.1 bt10.1).bind fun t33=>(if t33 = true then ((laws_eqExit.f bt25.2.1 bt25.2.2.1 bt25.2.2.2.1 bt10.2.1 bt10.2.2.1 bt10.2.2.2.1).bind fun t34=>(if t34 = true then (laws_FnExactPopExit.j0 k l1 bt10.1 bt10.2.2.2.2 t22 bt25.1 bt25.2.2.2.2 (bt25.2.2.2.2 != bt10.2.2.2.2) l0_0 bt10.2.1 bt10.2.2.1 bt10.2.2.2.1 t18 bt25.2.1 bt25.2.2.1 bt25.2.2.2.1) else (laws_FnExactPopExit.j0 k l1 bt10.1 bt10.2.2.2.2 t22 bt25.1 bt25.2.2.2.2 true l0_0 bt10.2.1 bt10.2.2.1 bt10.2.2.2.1 t18 bt25.2.1 bt25.2.2.1 bt25.2.2.2.1))) else (laws_FnExactPopExit.j0 k l1 bt10.1 bt10.2.2.2.2 t22 bt25.1 bt25.2.2.2.2 true l0_0 bt10.2.1 bt10.2.2.1 bt10.2.2.2.1 t18 bt25.2.1 bt25.2.2.1 bt25.2.2.2.1)))))))))))) = some r:=H
 have A3:=a0_ A30
 clear A30
 by_cases c4 : t2 < 0
 ·rw [if_pos c4] at H
  have c4b0 : decide (t2 < 0) = true:=decide_eq_true c4
  clear c4
  obtain rfl:=Option.some.inj H
  go_enter Try.func4,Try.ntmps4
  go_wp2_with (first | ((with_reducible refine gate_dst (N:=2) rfl ?_);refine box_event ?hg (N:=2) ?hd (cs:=#[.slice A0_0 l0_0.length c0_0]) (t:=24) ?hr ?_;(case hd=>rfl);(case hg=>rfl);(case hr=>first | (go_simp;done) | (go_simp;rfl));intro gb1 hg w5 hbox hb;have n0_:=a0_ (below_step hb_ hb);have n1_:=a0_ (hbox);have n2_:=a0_ ((by rw [hg];exact (below_size hb_) : w.heap.size ≤ gb1));have n3_:=a0_ ((by rw [hg];exact (below_size hb_) : w.heap.size ≤ gb1));clear HB;have HB:=n0_;have BK1:=n1_;have GW1:=n2_;have GE1:=n3_;clear n0_ n1_ n2_ n3_;clear hb hbox hg;have hcz6_0 : w5.cell? ⟨gb1,0,none⟩ = some (.slice A0_0 l0_0.length c0_0):=(blk_cell BK1.out 0).trans rfl;have hfz6_0:=blk_frozen BK1.out 0) | ((with_reducible refine gate_callee (f:=7) rfl ?_);refine goesL_ (some 22) rfl rfl Try.func7 (by kernel_rfl) rfl #[.agg #[.slice A0_0 l0_0.length c0_0],.int .i64 1048576] rfl lm_ ?_;(with_reducible refine (laws_szTree.calls k _ _ l0_0 1048576 t2 _ ?side1 ?side2 A3.out).mono ?_);(case side1=>exact cc_ (Kd.C_below HR0_0.out HB.out));(case side2=>exact HC0_0.out);rintro e w7 ⟨rfl,hb⟩;refine ⟨_,rfl,?_⟩;have n0_:=a0_ (blk_below (g:=gb1) (o:=.cells #[.slice A0_0 l0_0.length c0_0] 24 (0,0)) (bb_ BK1.out) hb);have n1_:=a0_ (below_step hb_ hb);clear BK1 HB;have BK1:=n0_;have HB:=n1_;clear n0_ n1_;(try clear hb);(try clear hb2);(try clear hk);(try clear hi)))
  go_ret
  exact ⟨by first | rfl | (simp [errW_none,errW_some] <;> rfl) | (simp [*,errW_none,errW_some] <;> rfl),hb_⟩
 ·rw [if_neg c4] at H
  have c4b0 : decide (t2 < 0) = false:=decide_eq_false c4
  clear c4
  replace H:=Option.bind_eq_some_iff.mp H
  obtain ⟨t3,A80,H⟩:=H
  replace H : (if t3 < 0 then (some true) else ((laws_toTree.f k l0_0).bind fun t4=>((laws_toExitS.f k l1).bind fun t7=>((spec_PopExit.f k t4 t7).bind fun bt10=>((laws_toTree.f k l0_0).bind fun t18=>((laws_toExitS.f k l1).bind fun t22=>((impl_PopExit.f k t18 t22).bind fun bt25=>((laws_eqExitS.f k bt25.1 bt10.1).bind fun t33=>(if t33 = true then ((laws_eqExit.f bt25.2.1 bt25.2.2.1 bt25.2.2.2.1 bt10.2.1 bt10.2.2.1 bt10.2.2.2.1).bind fun t34=>(if t34 = true then (laws_FnExactPopExit.j0 k l1 bt10.1 bt10.2.2.2.2 t22 bt25.1 bt25.2.2.2.2 (bt25.2.2.2.2 != bt10.2.2.2.2) l0_0 bt10.2.1 bt10.2.2.1 bt10.2.2.2.1 t18 bt25.2.1 bt25.2.2.1 bt25.2.2.2.1) else (laws_FnExactPopExit.j0 k l1 bt10.1 bt10.2.2.2.2 t22 bt25.1 bt25.2.2.2.2 true l0_0 bt10.2.1 bt10.2.2.1 bt10.2.2.2.1 t18 bt25.2.1 bt25.2.2.1 bt25.2.2.2.1))) else (laws_FnExactPopExit.j0 k l1 bt10.1 bt10.2.2.2.2 t22 bt25.1 bt25.2.2.2.2 true l0_0 bt10.2.1 bt10.2.2.1 bt10.2.2.2.1 t18 bt25.2.1 bt25.2.2.1 bt25.2.2.2.1)))))))))) = some r:=H
  have A8:=a0_ A80
  clear A80
  by_cases c9 : t3 < 0
  ·rw [if_pos c9] at H
   have c9b0 : decide (t3 < 0) = true:=decide_eq_true c9
   clear c9
   obtain rfl:=Option.some.inj H
   go_enter Try.func4,Try.ntmps4
   go_wp2_with (first | ((with_reducible refine gate_dst (N:=2) rfl ?_);refine box_event ?hg (N:=2) ?hd (cs:=#[.slice A0_0 l0_0.length c0_0]) (t:=24) ?hr ?_;(case hd=>rfl);(case hg=>rfl);(case hr=>first | (go_simp;done) | (go_simp;rfl));intro gb1 hg w10 hbox hb;have n0_:=a0_ (below_step hb_ hb);have n1_:=a0_ (hbox);have n2_:=a0_ ((by rw [hg];exact (below_size hb_) : w.heap.size ≤ gb1));have n3_:=a0_ ((by rw [hg];exact (below_size hb_) : w.heap.size ≤ gb1));clear HB;have HB:=n0_;have BK1:=n1_;have GW1:=n2_;have GE1:=n3_;clear n0_ n1_ n2_ n3_;clear hb hbox hg;have hcz11_0 : w10.cell? ⟨gb1,0,none⟩ = some (.slice A0_0 l0_0.length c0_0):=(blk_cell BK1.out 0).trans rfl;have hfz11_0:=blk_frozen BK1.out 0) | ((with_reducible refine gate_callee (f:=7) rfl ?_);refine goesL_ (some 22) rfl rfl Try.func7 (by kernel_rfl) rfl #[.agg #[.slice A0_0 l0_0.length c0_0],.int .i64 1048576] rfl lm_ ?_;(with_reducible refine (laws_szTree.calls k _ _ l0_0 1048576 t2 _ ?side1 ?side2 A3.out).mono ?_);(case side1=>exact cc_ (Kd.C_below HR0_0.out HB.out));(case side2=>exact HC0_0.out);rintro e w12 ⟨rfl,hb⟩;refine ⟨_,rfl,?_⟩;have n0_:=a0_ (blk_below (g:=gb1) (o:=.cells #[.slice A0_0 l0_0.length c0_0] 24 (0,0)) (bb_ BK1.out) hb);have n1_:=a0_ (below_step hb_ hb);clear BK1 HB;have BK1:=n0_;have HB:=n1_;clear n0_ n1_;(try clear hb);(try clear hb2);(try clear hk);(try clear hi)) | ((with_reducible refine gate_callee (f:=8) rfl ?_);refine goesL_ (some 27) rfl rfl Try.func8 (by kernel_rfl) rfl #[.slice A1 l1.length c1,.int .i64 t2] rfl lm_ ?_;(with_reducible refine (laws_szExitS.calls _ _ l1 t2 t3 _ ?side1 ?side2 A8.out).mono ?_);(case side1=>exact cc_ (Kd.C_below HR1.out HB.out));(case side2=>exact HC1.out);rintro e w' ⟨rfl,⟨nd,rfl⟩⟩;refine ⟨_,rfl,?_⟩))
   go_ret
   exact ⟨by first | rfl | (simp [errW_none,errW_some] <;> rfl) | (simp [*,errW_none,errW_some] <;> rfl),hb_⟩
  ·rw [if_neg c9] at H
   have c9b0 : decide (t3 < 0) = false:=decide_eq_false c9
   clear c9
   replace H:=Option.bind_eq_some_iff.mp H
   obtain ⟨t4,A130,H⟩:=H
   replace H : ((laws_toExitS.f k l1).bind fun t7=>((spec_PopExit.f k t4 t7).bind fun bt10=>((laws_toTree.f k l0_0).bind fun t18=>((laws_toExitS.f k l1).bind fun t22=>((impl_PopExit.f k t18 t22).bind fun bt25=>((laws_eqExitS.f k bt25.1 bt10.1).bind fun t33=>(if t33 = true then ((laws_eqExit.f bt25.2.1 bt25.2.2.1 bt25.2.2.2.1 bt10.2.1 bt10.2.2.1 bt10.2.2.2.1).bind fun t34=>(if t34 = true then (laws_FnExactPopExit.j0 k l1 bt10.1 bt10.2.2.2.2 t22 bt25.1 bt25.2.2.2.2 (bt25.2.2.2.2 != bt10.2.2.2.2) l0_0 bt10.2.1 bt10.2.2.1 bt10.2.2.2.1 t18 bt25.2.1 bt25.2.2.1 bt25.2.2.2.1) else (laws_FnExactPopExit.j0 k l1 bt10.1 bt10.2.2.2.2 t22 bt25.1 bt25.2.2.2.2 true l0_0 bt10.2.1 bt10.2.2.1 bt10.2.2.2.1 t18 bt25.2.1 bt25.2.2.1 bt25.2.2.2.1))) else (laws_FnExactPopExit.j0 k l1 bt10.1 bt10.2.2.2.2 t22 bt25.1 bt25.2.2.2.2 true l0_0 bt10.2.1 bt10.2.2.1 bt10.2.2.2.1 t18 bt25.2.1 bt25.2.2.1 bt25.2.2.2.1)))))))) = some r:=H
   have A13:=a0_ A130
   clear A130
   replace H:=Option.bind_eq_some_iff.mp H
   obtain ⟨t7,A140,H⟩:=H
   replace H : ((spec_PopExit.f k t4 t7).bind fun bt10=>((laws_toTree.f k l0_0).bind fun t18=>((laws_toExitS.f k l1).bind fun t22=>((impl_PopExit.f k t18 t22).bind fun bt25=>((laws_eqExitS.f k bt25.1 bt10.1).bind fun t33=>(if t33 = true then ((laws_eqExit.f bt25.2.1 bt25.2.2.1 bt25.2.2.2.1 bt10.2.1 bt10.2.2.1 bt10.2.2.2.1).bind fun t34=>(if t34 = true then (laws_FnExactPopExit.j0 k l1 bt10.1 bt10.2.2.2.2 t22 bt25.1 bt25.2.2.2.2 (bt25.2.2.2.2 != bt10.2.2.2.2) l0_0 bt10.2.1 bt10.2.2.1 bt10.2.2.2.1 t18 bt25.2.1 bt25.2.2.1 bt25.2.2.2.1) else (laws_FnExactPopExit.j0 k l1 bt10.1 bt10.2.2.2.2 t22 bt25.1 bt25.2.2.2.2 true l0_0 bt10.2.1 bt10.2.2.1 bt10.2.2.2.1 t18 bt25.2.1 bt25.2.2.1 bt25.2.2.2.1))) else (laws_FnExactPopExit.j0 k l1 bt10.1 bt10.2.2.2.2 t22 bt25.1 bt25.2.2.2.2 true l0_0 bt10.2.1 bt10.2.2.1 bt10.2.2.2.1 t18 bt25.2.1 bt25.2.2.1 bt25.2.2.2.1))))))) = some r:=H
   have A14:=a0_ A140
   clear A140
   replace H:=Option.bind_eq_some_iff.mp H
   obtain ⟨⟨t10,t13,t14,t15,t16⟩,A150,H⟩:=H
   replace H : ((laws_toTree.f k l0_0).bind fun t18=>((laws_toExitS.f k l1).bind fun t22=>((impl_PopExit.f k t18 t22).bind fun bt25=>((laws_eqExitS.f k bt25.1 t10).bind fun t33=>(if t33 = true then ((laws_eqExit.f bt25.2.1 bt25.2.2.1 bt25.2.2.2.1 t13 t14 t15).bind fun t34=>(if t34 = true then (laws_FnExactPopExit.j0 k l1 t10 t16 t22 bt25.1 bt25.2.2.2.2 (bt25.2.2.2.2 != t16) l0_0 t13 t14 t15 t18 bt25.2.1 bt25.2.2.1 bt25.2.2.2.1) else (laws_FnExactPopExit.j0 k l1 t10 t16 t22 bt25.1 bt25.2.2.2.2 true l0_0 t13 t14 t15 t18 bt25.2.1 bt25.2.2.1 bt25.2.2.2.1))) else (laws_FnExactPopExit.j0 k l1 t10 t16 t22 bt25.1 bt25.2.2.2.2 true l0_0 t13 t14 t15 t18 bt25.2.1 bt25.2.2.1 bt25.2.2.2.1)))))) = some r:=H
   have A15:=a0_ A150
   clear A150
   replace H:=Option.bind_eq_some_iff.mp H
   obtain ⟨t18,A160,H⟩:=H
   replace H : ((laws_toExitS.f k l1).bind fun t22=>((impl_PopExit.f k t18 t22).bind fun bt25=>((laws_eqExitS.f k bt25.1 t10).bind fun t33=>(if t33 = true then ((laws_eqExit.f bt25.2.1 bt25.2.2.1 bt25.2.2.2.1 t13 t14 t15).bind fun t34=>(if t34 = true then (laws_FnExactPopExit.j0 k l1 t10 t16 t22 bt25.1 bt25.2.2.2.2 (bt25.2.2.2.2 != t16) l0_0 t13 t14 t15 t18 bt25.2.1 bt25.2.2.1 bt25.2.2.2.1) else (laws_FnExactPopExit.j0 k l1 t10 t16 t22 bt25.1 bt25.2.2.2.2 true l0_0 t13 t14 t15 t18 bt25.2.1 bt25.2.2.1 bt25.2.2.2.1))) else (laws_FnExactPopExit.j0 k l1 t10 t16 t22 bt25.1 bt25.2.2.2.2 true l0_0 t13 t14 t15 t18 bt25.2.1 bt25.2.2.1 bt25.2.2.2.1))))) = some r:=H
   have A16:=a0_ A160
   clear A160
   replace H:=Option.bind_eq_some_iff.mp H
   obtain ⟨t22,A170,H⟩:=H
   replace H : ((impl_PopExit.f k t18 t22).bind fun bt25=>((laws_eqExitS.f k bt25.1 t10).bind fun t33=>(if t33 = true then ((laws_eqExit.f bt25.2.1 bt25.2.2.1 bt25.2.2.2.1 t13 t14 t15).bind fun t34=>(if t34 = true then (laws_FnExactPopExit.j0 k l1 t10 t16 t22 bt25.1 bt25.2.2.2.2 (bt25.2.2.2.2 != t16) l0_0 t13 t14 t15 t18 bt25.2.1 bt25.2.2.1 bt25.2.2.2.1) else (laws_FnExactPopExit.j0 k l1 t10 t16 t22 bt25.1 bt25.2.2.2.2 true l0_0 t13 t14 t15 t18 bt25.2.1 bt25.2.2.1 bt25.2.2.2.1))) else (laws_FnExactPopExit.j0 k l1 t10 t16 t22 bt25.1 bt25.2.2.2.2 true l0_0 t13 t14 t15 t18 bt25.2.1 bt25.2.2.1 bt25.2.2.2.1)))) = some r:=H
   have A17:=a0_ A170
   clear A170
   replace H:=Option.bind_eq_some_iff.mp H
   obtain ⟨⟨t25,t28,t29,t30,t31⟩,A180,H⟩:=H
   replace H : ((laws_eqExitS.f k t25 t10).bind fun t33=>(if t33 = true then ((laws_eqExit.f t28 t29 t30 t13 t14 t15).bind fun t34=>(if t34 = true then (laws_FnExactPopExit.j0 k l1 t10 t16 t22 t25 t31 (t31 != t16) l0_0 t13 t14 t15 t18 t28 t29 t30) else (laws_FnExactPopExit.j0 k l1 t10 t16 t22 t25 t31 true l0_0 t13 t14 t15 t18 t28 t29 t30))) else (laws_FnExactPopExit.j0 k l1 t10 t16 t22 t25 t31 true l0_0 t13 t14 t15 t18 t28 t29 t30))) = some r:=H
   have A18:=a0_ A180
   clear A180
   have HC19:=a0_ H
   clear H
   go_enter Try.func4,Try.ntmps4
   go_upto_region 12 with (first | ((with_reducible refine gate_dst (N:=2) rfl ?_);refine box_event ?hg (N:=2) ?hd (cs:=#[.slice A0_0 l0_0.length c0_0]) (t:=24) ?hr ?_;(case hd=>rfl);(case hg=>rfl);(case hr=>first | (go_simp;done) | (go_simp;rfl));intro gb1 hg w20 hbox hb;have n0_:=a0_ (below_step hb_ hb);have n1_:=a0_ (hbox);have n2_:=a0_ ((by rw [hg];exact (below_size hb_) : w.heap.size ≤ gb1));have n3_:=a0_ ((by rw [hg];exact (below_size hb_) : w.heap.size ≤ gb1));clear HB;have HB:=n0_;have BK1:=n1_;have GW1:=n2_;have GE1:=n3_;clear n0_ n1_ n2_ n3_;clear hb hbox hg;have hcz21_0 : w20.cell? ⟨gb1,0,none⟩ = some (.slice A0_0 l0_0.length c0_0):=(blk_cell BK1.out 0).trans rfl;have hfz21_0:=blk_frozen BK1.out 0) | ((with_reducible refine gate_callee (f:=7) rfl ?_);refine goesL_ (some 22) rfl rfl Try.func7 (by kernel_rfl) rfl #[.agg #[.slice A0_0 l0_0.length c0_0],.int .i64 1048576] rfl lm_ ?_;(with_reducible refine (laws_szTree.calls k _ _ l0_0 1048576 t2 _ ?side1 ?side2 A3.out).mono ?_);(case side1=>exact cc_ (Kd.C_below HR0_0.out HB.out));(case side2=>exact HC0_0.out);rintro e w22 ⟨rfl,hb⟩;refine ⟨_,rfl,?_⟩;have n0_:=a0_ (blk_below (g:=gb1) (o:=.cells #[.slice A0_0 l0_0.length c0_0] 24 (0,0)) (bb_ BK1.out) hb);have n1_:=a0_ (below_step hb_ hb);clear BK1 HB;have BK1:=n0_;have HB:=n1_;clear n0_ n1_;(try clear hb);(try clear hb2);(try clear hk);(try clear hi)) | ((with_reducible refine gate_callee (f:=8) rfl ?_);refine goesL_ (some 27) rfl rfl Try.func8 (by kernel_rfl) rfl #[.slice A1 l1.length c1,.int .i64 t2] rfl lm_ ?_;(with_reducible refine (laws_szExitS.calls _ _ l1 t2 t3 _ ?side1 ?side2 A8.out).mono ?_);(case side1=>exact cc_ (Kd.C_below HR1.out HB.out));(case side2=>exact HC1.out);rintro e w' ⟨rfl,⟨nd,rfl⟩⟩;refine ⟨_,rfl,?_⟩;(try (rw [drewN_self w22];generalize hq_ : World.drewN w22 _ = w22;have n0_ : Aside0 (w22.heap[gb1]? = some (.cells #[.slice A0_0 l0_0.length c0_0] 24 (0,0))):=⟨by rw [← hq_];exact (bb_ BK1.out)⟩;have n1_ : Aside0 (Below w.heap.size w w22):=⟨by rw [← hq_];exact hb_⟩;clear BK1 HB hq_;have BK1:=n0_;have HB:=n1_;clear n0_ n1_));have hcz23_0 : w22.cell? ⟨gb1,0,none⟩ = some (.slice A0_0 l0_0.length c0_0):=(blk_cell BK1.out 0).trans rfl;have hfz23_0:=blk_frozen BK1.out 0) | ((with_reducible refine gate_callee (f:=10) rfl ?_);refine goesL_ (some 32) rfl rfl Try.func10 (by kernel_rfl) rfl #[.agg #[.slice A0_0 l0_0.length c0_0]] rfl lm_ ?_;(with_reducible refine (laws_toTree.calls k _ _ l0_0 t4 _ ?side1 ?side2 A13.out).mono ?_);(case side1=>exact cc_ (Kd.C_below HR0_0.out HB.out));(case side2=>exact HC0_0.out);rintro e w24 ⟨v5,rfl,ho0,hb⟩;refine ⟨_,rfl,?_⟩;have n0_:=a0_ (Kd.R_lower ho0 (below_size hb_));have n1_:=a0_ (blk_below (g:=gb1) (o:=.cells #[.slice A0_0 l0_0.length c0_0] 24 (0,0)) (bb_ BK1.out) hb);have n2_:=a0_ (below_step hb_ hb);clear BK1 HB;have HO6:=n0_;have BK1:=n1_;have HB:=n2_;clear n0_ n1_ n2_;(try clear hb);(try clear hb2);(try clear hk);(try clear hi);(try clear ho0)) | ((with_reducible refine gate_callee (f:=11) rfl ?_);refine goesL_ (some 34) rfl rfl Try.func11 (by kernel_rfl) rfl #[.slice A1 l1.length c1] rfl lm_ ?_;(with_reducible refine (laws_toExitS.calls k _ _ l1 t7 _ ?side1 ?side2 A14.out).mono ?_);(case side1=>exact cc_ (Kd.C_below HR1.out HB.out));(case side2=>exact HC1.out);rintro e w25 ⟨v8,rfl,ho0,hb⟩;refine ⟨_,rfl,?_⟩;have n0_:=a0_ (Kd.R_below (rr_ HO6.out) hb);have n1_:=a0_ (Kd.R_lower ho0 (below_size hb_));have n2_:=a0_ (blk_below (g:=gb1) (o:=.cells #[.slice A0_0 l0_0.length c0_0] 24 (0,0)) (bb_ BK1.out) hb);have n3_:=a0_ (below_step hb_ hb);clear HO6 BK1 HB;have HO6:=n0_;have HO9:=n1_;have BK1:=n2_;have HB:=n3_;clear n0_ n1_ n2_ n3_;(try clear hb);(try clear hb2);(try clear hk);(try clear hi);(try clear ho0);obtain ⟨Ao26,co26,eo26⟩:=Kd.R_slice HO6.out;subst eo26;obtain ⟨Ao27,co27,eo27⟩:=Kd.R_slice HO9.out;subst eo27) | ((with_reducible refine gate_callee (f:=19) rfl ?_);refine goesL_ (some 35) rfl rfl Try.func19 (by kernel_rfl) rfl #[.agg #[.slice Ao26 t4.length co26],.slice Ao27 t7.length co27] rfl lm_ ?_;(with_reducible refine (spec_PopExit.calls k _ _ t4 _ _ t7 t10 t13 t14 t15 t16 _ ?side1 ?side2 ?side3 ?side4 A15.out).mono ?_);(case side1=>repeat (first | exact (Kd.R_reads' HO6.out).2.2 | (with_reducible refine Kd.C_alloc ?_ _) | (with_reducible refine Kd.C_drewN ?_ _) | (with_reducible refine Kd.C_drew ?_)));(case side2=>exact (Kd.R_reads' HO6.out).2.1);(case side3=>repeat (first | exact (Kd.R_reads' HO9.out).2.2 | (with_reducible refine Kd.C_alloc ?_ _) | (with_reducible refine Kd.C_drewN ?_ _) | (with_reducible refine Kd.C_drew ?_)));(case side4=>exact (Kd.R_reads' HO9.out).2.1);rintro e w28 ⟨v11,rfl,ho0,hb⟩;refine ⟨_,rfl,?_⟩;have n0_:=a0_ (Kd.R_below (rr_ HO6.out) hb);have n1_:=a0_ (Kd.R_elder' (rr_ HO9.out) (Kd.R_base ho0) hb);have n2_:=a0_ (Kd.R_lower (Kd.R_new' ho0 (Kd.R_lt (rr_ HO9.out))) (below_size hb_));have n3_:=a0_ (blk_below (g:=gb1) (o:=.cells #[.slice A0_0 l0_0.length c0_0] 24 (0,0)) (bb_ BK1.out) hb);have n4_:=a0_ (below_step hb_ hb);clear HO6 HO9;clear BK1 HB;have HO6:=n0_;have HO9:=n1_;have HO12:=n2_;have BK1:=n3_;have HB:=n4_;clear n0_ n1_ n2_ n3_ n4_;(try clear hb);(try clear hb2);(try clear hk);(try clear hi);(try clear ho0)) | ((with_reducible refine gate_dst (N:=7) rfl ?_);refine box_event ?hg (N:=7) ?hd (cs:=#[.int .i64 0,.int .i64 0,.int .i64 0]) (t:=38) ?hr ?_;(case hd=>rfl);(case hg=>rfl);(case hr=>first | (go_simp;done) | (go_simp;rfl));intro gb17 hg w29 hbox hb;have n0_:=a0_ (Kd.R_below (rr_ HO6.out) hb);have n1_:=a0_ (Kd.R_below (Kd.R_elderB (rr_ HO9.out) gb17 (Nat.le_of_eq hg.symm)) hb);have n2_:=a0_ (Kd.R_below (Kd.R_elderB (rr_ HO12.out) gb17 (Nat.le_of_eq hg.symm)) hb);have n3_:=a0_ (blk_below (g:=gb1) (o:=.cells #[.slice A0_0 l0_0.length c0_0] 24 (0,0)) (bb_ BK1.out) hb);have n4_:=a0_ (below_step hb_ hb);have n5_:=a0_ (hbox);have n6_:=a0_ ((by rw [hg];exact (below_size hb_) : w.heap.size ≤ gb17));have n7_:=a0_ ((by rw [hg];exact (below_size hb_) : w.heap.size ≤ gb17));have n8_:=a0_ ((by rw [hg];exact Nat.ne_of_lt (blk_lt (g:=gb1) (o:=.cells #[.slice A0_0 l0_0.length c0_0] 24 (0,0)) (bb_ BK1.out)) : gb1 ≠ gb17));have n9_:=a0_ ((by rw [hg];exact Nat.ne_of_gt (blk_lt (g:=gb1) (o:=.cells #[.slice A0_0 l0_0.length c0_0] 24 (0,0)) (bb_ BK1.out)) : gb17 ≠ gb1));clear HO6 HO9;clear HO12 BK1 HB;have HO6:=n0_;have HO9:=n1_;have HO12:=n2_;have BK1:=n3_;have HB:=n4_;have BK17:=n5_;have GW17:=n6_;have GE17:=n7_;have NB1_17:=n8_;have NB17_1:=n9_;clear n0_ n1_ n2_ n3_ n4_ n5_ n6_ n7_ n8_ n9_;clear hb hbox hg;have hnb30:=NB17_1.out;have hnc30:=NB1_17.out;have hcz31_0 : w29.cell? ⟨gb17,0,none⟩ = some (.int .i64 0):=(blk_cell BK17.out 0).trans rfl;have hcz31_1 : w29.cell? ⟨gb17,1,none⟩ = some (.int .i64 0):=(blk_cell BK17.out 1).trans rfl;have hcz31_2 : w29.cell? ⟨gb17,2,none⟩ = some (.int .i64 0):=(blk_cell BK17.out 2).trans rfl;have hfz31_0:=blk_frozen BK17.out 0;have hfz31_1:=blk_frozen BK17.out 1;have hfz31_2:=blk_frozen BK17.out 2;have hcz32_0 : w29.cell? ⟨gb1,0,none⟩ = some (.slice A0_0 l0_0.length c0_0):=(blk_cell BK1.out 0).trans rfl;have hfz32_0:=blk_frozen BK1.out 0) | ((with_reducible refine gate_callee (f:=10) rfl ?_);refine goesL_ (some 40) rfl rfl Try.func10 (by kernel_rfl) rfl #[.agg #[.slice A0_0 l0_0.length c0_0]] rfl lm_ ?_;(with_reducible refine (laws_toTree.calls k _ _ l0_0 t18 _ ?side1 ?side2 A16.out).mono ?_);(case side1=>exact Kd.C_below HR0_0.out hb_);(case side2=>exact HC0_0.out);rintro e w33 ⟨v19,rfl,ho0,hb⟩;refine ⟨_,rfl,?_⟩;have n0_:=a0_ (Kd.R_elder' (by (with_reducible repeat (first | apply Kd.R_alloc | apply Kd.R_drewN | apply Kd.R_drew));exact (Kd.R_mono (Kd.R_far (p:=⟨gb17,2,none⟩) (Kd.R_far (p:=⟨gb17,1,none⟩) (Kd.R_far (p:=⟨gb17,0,none⟩) (Kd.R_types HO6.out BK17.out (by decide)) (fun _ hk=>hk.2) (.int .i64 t13)) (fun _ hk=>hk.2) (.int .i64 t14)) (fun _ hk=>hk.2) (.int .i64 t15)) (fun _ h_=>h_.1))) (Kd.R_base ho0) hb);have n1_:=a0_ (Kd.R_below (by (with_reducible repeat (first | apply Kd.R_alloc | apply Kd.R_drewN | apply Kd.R_drew));exact (Kd.R_mono (Kd.R_far (p:=⟨gb17,2,none⟩) (Kd.R_far (p:=⟨gb17,1,none⟩) (Kd.R_far (p:=⟨gb17,0,none⟩) (Kd.R_mono HO9.out (fun k_ hk=>(⟨hk,hk.2⟩ : _ ∧ k_ ≠ gb17))) (fun _ hk=>hk.2) (.int .i64 t13)) (fun _ hk=>hk.2) (.int .i64 t14)) (fun _ hk=>hk.2) (.int .i64 t15)) (fun _ h_=>h_.1))) hb);have n2_:=a0_ (Kd.R_below (by (with_reducible repeat (first | apply Kd.R_alloc | apply Kd.R_drewN | apply Kd.R_drew));exact (Kd.R_mono (Kd.R_far (p:=⟨gb17,2,none⟩) (Kd.R_far (p:=⟨gb17,1,none⟩) (Kd.R_far (p:=⟨gb17,0,none⟩) (Kd.R_mono HO12.out (fun k_ hk=>(⟨hk,hk.2⟩ : _ ∧ k_ ≠ gb17))) (fun _ hk=>hk.2) (.int .i64 t13)) (fun _ hk=>hk.2) (.int .i64 t14)) (fun _ hk=>hk.2) (.int .i64 t15)) (fun _ h_=>h_.1))) hb);have n3_:=a0_ (Kd.R_lower (Kd.R_new' ho0 (Kd.R_lt (by (with_reducible repeat (first | apply Kd.R_alloc | apply Kd.R_drewN | apply Kd.R_drew));exact (Kd.R_mono (Kd.R_far (p:=⟨gb17,2,none⟩) (Kd.R_far (p:=⟨gb17,1,none⟩) (Kd.R_far (p:=⟨gb17,0,none⟩) (Kd.R_types HO6.out BK17.out (by decide)) (fun _ hk=>hk.2) (.int .i64 t13)) (fun _ hk=>hk.2) (.int .i64 t14)) (fun _ hk=>hk.2) (.int .i64 t15)) (fun _ h_=>h_.1))))) (below_size hb_));have n4_:=a0_ (blk_below (g:=gb1) (o:=.cells #[.slice A0_0 l0_0.length c0_0] 24 (0,0)) (by (with_reducible repeat (first | refine blk_drewN ?_ _ | refine blk_drew ?_ | refine blk_alloc ?_ _));refine blk_far ?_ NB1_17.out _;(with_reducible repeat (first | refine blk_drewN ?_ _ | refine blk_drew ?_ | refine blk_alloc ?_ _));refine blk_far ?_ NB1_17.out _;(with_reducible repeat (first | refine blk_drewN ?_ _ | refine blk_drew ?_ | refine blk_alloc ?_ _));refine blk_far ?_ NB1_17.out _;(with_reducible repeat (first | refine blk_drewN ?_ _ | refine blk_drew ?_ | refine blk_alloc ?_ _));exact BK1.out) hb);have n5_:=a0_ (blk_below (g:=gb17) (o:=.cells #[.int .i64 t13,.int .i64 t14,.int .i64 t15] 38 (0,0)) (by (with_reducible repeat (first | refine blk_drewN ?_ _ | refine blk_drew ?_ | refine blk_alloc ?_ _));refine blk_put (cs:=#[.int .i64 t13,.int .i64 t14,.int .i64 0]) ?_ 2 _ rfl;(with_reducible repeat (first | refine blk_drewN ?_ _ | refine blk_drew ?_ | refine blk_alloc ?_ _));refine blk_put (cs:=#[.int .i64 t13,.int .i64 0,.int .i64 0]) ?_ 1 _ rfl;(with_reducible repeat (first | refine blk_drewN ?_ _ | refine blk_drew ?_ | refine blk_alloc ?_ _));refine blk_put (cs:=#[.int .i64 0,.int .i64 0,.int .i64 0]) ?_ 0 _ rfl;(with_reducible repeat (first | refine blk_drewN ?_ _ | refine blk_drew ?_ | refine blk_alloc ?_ _));exact BK17.out) hb);have n6_:=a0_ (below_step hb_ hb);clear HO6 HO9;clear HO12 BK1;clear BK17 HB;have HO6:=n0_;have HO9:=n1_;have HO12:=n2_;have HO20:=n3_;have BK1:=n4_;have BK17:=n5_;have HB:=n6_;clear n0_ n1_ n2_ n3_ n4_ n5_ n6_;(try clear hb);(try clear hb2);(try clear hk);(try clear hi);(try clear ho0)) | ((with_reducible refine gate_dst (N:=9) rfl ?_);refine box_event ?hg (N:=9) ?hd (cs:=#[.slice none 0 0]) (t:=35) ?hr ?_;(case hd=>rfl);(case hg=>rfl);(case hr=>first | (go_simp;done) | (go_simp;rfl));intro gb21 hg w34 hbox hb;have n0_:=a0_ (Kd.R_below (rr_ HO6.out) hb);have n1_:=a0_ (Kd.R_below (rr_ HO9.out) hb);have n2_:=a0_ (Kd.R_below (rr_ HO12.out) hb);have n3_:=a0_ (Kd.R_below (rr_ HO20.out) hb);have n4_:=a0_ (blk_below (g:=gb1) (o:=.cells #[.slice A0_0 l0_0.length c0_0] 24 (0,0)) (bb_ BK1.out) hb);have n5_:=a0_ (blk_below (g:=gb17) (o:=.cells #[.int .i64 t13,.int .i64 t14,.int .i64 t15] 38 (0,0)) (bb_ BK17.out) hb);have n6_:=a0_ (below_step hb_ hb);have n7_:=a0_ (hbox);have n8_:=a0_ ((by rw [hg];exact (below_size hb_) : w.heap.size ≤ gb21));have n9_:=a0_ ((by rw [hg];exact (below_size hb_) : w.heap.size ≤ gb21));have n10_:=a0_ ((by rw [hg];exact Nat.ne_of_lt (blk_lt (g:=gb1) (o:=.cells #[.slice A0_0 l0_0.length c0_0] 24 (0,0)) (bb_ BK1.out)) : gb1 ≠ gb21));have n11_:=a0_ ((by rw [hg];exact Nat.ne_of_gt (blk_lt (g:=gb1) (o:=.cells #[.slice A0_0 l0_0.length c0_0] 24 (0,0)) (bb_ BK1.out)) : gb21 ≠ gb1));have n12_:=a0_ ((by rw [hg];exact Nat.ne_of_lt (blk_lt (g:=gb17) (o:=.cells #[.int .i64 t13,.int .i64 t14,.int .i64 t15] 38 (0,0)) (bb_ BK17.out)) : gb17 ≠ gb21));have n13_:=a0_ ((by rw [hg];exact Nat.ne_of_gt (blk_lt (g:=gb17) (o:=.cells #[.int .i64 t13,.int .i64 t14,.int .i64 t15] 38 (0,0)) (bb_ BK17.out)) : gb21 ≠ gb17));clear HO6 HO9;clear HO12 HO20;clear BK1 BK17 HB;have HO6:=n0_;have HO9:=n1_;have HO12:=n2_;have HO20:=n3_;have BK1:=n4_;have BK17:=n5_;have HB:=n6_;have BK21:=n7_;have GW21:=n8_;have GE21:=n9_;have NB1_21:=n10_;have NB21_1:=n11_;have NB17_21:=n12_;have NB21_17:=n13_;clear n0_ n1_ n2_ n3_ n4_ n5_ n6_ n7_ n8_ n9_ n10_ n11_ n12_ n13_;clear hb hbox hg;obtain ⟨Ao35,co35,eo35⟩:=Kd.R_slice HO20.out;subst eo35;have hnb36:=NB21_1.out;have hnc36:=NB1_21.out;have hnb37:=NB21_17.out;have hnc37:=NB17_21.out;have hcz38_0 : w34.cell? ⟨gb21,0,none⟩ = some (.slice none 0 0):=(blk_cell BK21.out 0).trans rfl;have hfz38_0:=blk_frozen BK21.out 0) | ((with_reducible refine gate_callee (f:=11) rfl ?_);refine goesL_ (some 42) rfl rfl Try.func11 (by kernel_rfl) rfl #[.slice A1 l1.length c1] rfl lm_ ?_;(with_reducible refine (laws_toExitS.calls k _ _ l1 t22 _ ?side1 ?side2 A17.out).mono ?_);(case side1=>exact Kd.C_below HR1.out hb_);(case side2=>exact HC1.out);rintro e w39 ⟨v23,rfl,ho0,hb⟩;refine ⟨_,rfl,?_⟩;have n0_:=a0_ (Kd.R_below (by (with_reducible repeat (first | apply Kd.R_alloc | apply Kd.R_drewN | apply Kd.R_drew));exact (Kd.R_mono (Kd.R_far (p:=⟨gb21,0,none⟩) (Kd.R_types HO6.out BK21.out (by decide)) (fun _ hk=>hk.2) (.slice Ao35 t18.length co35)) (fun _ h_=>h_.1))) hb);have n1_:=a0_ (Kd.R_elder' (by (with_reducible repeat (first | apply Kd.R_alloc | apply Kd.R_drewN | apply Kd.R_drew));exact (Kd.R_mono (Kd.R_far (p:=⟨gb21,0,none⟩) (Kd.R_types HO9.out BK21.out (by decide)) (fun _ hk=>hk.2) (.slice Ao35 t18.length co35)) (fun _ h_=>h_.1))) (Kd.R_base ho0) hb);have n2_:=a0_ (Kd.R_elder' (by (with_reducible repeat (first | apply Kd.R_alloc | apply Kd.R_drewN | apply Kd.R_drew));exact (Kd.R_mono (Kd.R_far (p:=⟨gb21,0,none⟩) (Kd.R_types HO12.out BK21.out (by decide)) (fun _ hk=>hk.2) (.slice Ao35 t18.length co35)) (fun _ h_=>h_.1))) (Kd.R_base ho0) hb);have n3_:=a0_ (Kd.R_below (by (with_reducible repeat (first | apply Kd.R_alloc | apply Kd.R_drewN | apply Kd.R_drew));exact (Kd.R_mono (Kd.R_far (p:=⟨gb21,0,none⟩) (Kd.R_types HO20.out BK21.out (by decide)) (fun _ hk=>hk.2) (.slice Ao35 t18.length co35)) (fun _ h_=>h_.1))) hb);have n4_:=a0_ (Kd.R_lower (Kd.R_newB (Kd.R_new' (Kd.R_new' ho0 (Kd.R_lt (by (with_reducible repeat (first | apply Kd.R_alloc | apply Kd.R_drewN | apply Kd.R_drew));exact (Kd.R_mono (Kd.R_far (p:=⟨gb21,0,none⟩) (Kd.R_types HO9.out BK21.out (by decide)) (fun _ hk=>hk.2) (.slice Ao35 t18.length co35)) (fun _ h_=>h_.1))))) (Kd.R_lt (by (with_reducible repeat (first | apply Kd.R_alloc | apply Kd.R_drewN | apply Kd.R_drew));exact (Kd.R_mono (Kd.R_far (p:=⟨gb21,0,none⟩) (Kd.R_types HO12.out BK21.out (by decide)) (fun _ hk=>hk.2) (.slice Ao35 t18.length co35)) (fun _ h_=>h_.1))))) (g:=gb17) (o:=.cells #[.int .i64 t13,.int .i64 t14,.int .i64 t15] 38 (0,0)) (by (with_reducible repeat (first | refine blk_drewN ?_ _ | refine blk_drew ?_ | refine blk_alloc ?_ _));refine blk_far ?_ NB17_21.out _;(with_reducible repeat (first | refine blk_drewN ?_ _ | refine blk_drew ?_ | refine blk_alloc ?_ _));exact BK17.out)) (below_size hb_));have n5_:=a0_ (blk_below (g:=gb1) (o:=.cells #[.slice A0_0 l0_0.length c0_0] 24 (0,0)) (by (with_reducible repeat (first | refine blk_drewN ?_ _ | refine blk_drew ?_ | refine blk_alloc ?_ _));refine blk_far ?_ NB1_21.out _;(with_reducible repeat (first | refine blk_drewN ?_ _ | refine blk_drew ?_ | refine blk_alloc ?_ _));exact BK1.out) hb);have n6_:=a0_ (blk_below (g:=gb17) (o:=.cells #[.int .i64 t13,.int .i64 t14,.int .i64 t15] 38 (0,0)) (by (with_reducible repeat (first | refine blk_drewN ?_ _ | refine blk_drew ?_ | refine blk_alloc ?_ _));refine blk_far ?_ NB17_21.out _;(with_reducible repeat (first | refine blk_drewN ?_ _ | refine blk_drew ?_ | refine blk_alloc ?_ _));exact BK17.out) hb);have n7_:=a0_ (blk_below (g:=gb21) (o:=.cells #[.slice Ao35 t18.length co35] 35 (0,0)) (by (with_reducible repeat (first | refine blk_drewN ?_ _ | refine blk_drew ?_ | refine blk_alloc ?_ _));refine blk_put (cs:=#[.slice none 0 0]) ?_ 0 _ rfl;(with_reducible repeat (first | refine blk_drewN ?_ _ | refine blk_drew ?_ | refine blk_alloc ?_ _));exact BK21.out) hb);have n8_:=a0_ (below_step hb_ hb);clear HO6 HO9;clear HO12 HO20;clear BK1 BK17;clear BK21 HB;have HO6:=n0_;have HO9:=n1_;have HO12:=n2_;have HO20:=n3_;have HO24:=n4_;have BK1:=n5_;have BK17:=n6_;have BK21:=n7_;have HB:=n8_;clear n0_ n1_ n2_ n3_ n4_ n5_ n6_ n7_ n8_;(try clear hb);(try clear hb2);(try clear hk);(try clear hi);(try clear ho0);have hcz40_0 : w39.cell? ⟨gb21,0,none⟩ = some (.slice Ao35 t18.length co35):=(blk_cell BK21.out 0).trans rfl;have hfz40_0:=blk_frozen BK21.out 0;obtain ⟨Ao41,co41,eo41⟩:=Kd.R_slice HO24.out;subst eo41) | ((with_reducible refine gate_callee (f:=20) rfl ?_);refine goesL_ (some 46) rfl rfl Try.func20 (by kernel_rfl) rfl #[.agg #[.slice Ao35 t18.length co35],.slice Ao41 t22.length co41] rfl lm_ ?_;(with_reducible refine (impl_PopExit.calls k _ _ t18 _ _ t22 t25 t28 t29 t30 t31 _ ?side1 ?side2 ?side3 ?side4 A18.out).mono ?_);(case side1=>repeat (first | exact (Kd.R_reads' HO20.out).2.2 | (with_reducible refine Kd.C_alloc ?_ _) | (with_reducible refine Kd.C_drewN ?_ _) | (with_reducible refine Kd.C_drew ?_)));(case side2=>exact (Kd.R_reads' HO20.out).2.1);(case side3=>repeat (first | exact (Kd.R_reads' HO24.out).2.2 | (with_reducible refine Kd.C_alloc ?_ _) | (with_reducible refine Kd.C_drewN ?_ _) | (with_reducible refine Kd.C_drew ?_)));(case side4=>exact (Kd.R_reads' HO24.out).2.1);rintro e w42 ⟨v26,rfl,ho0,hb⟩;refine ⟨_,rfl,?_⟩;have n0_:=a0_ (Kd.R_below (rr_ HO6.out) hb);have n1_:=a0_ (Kd.R_elder' (rr_ HO9.out) (Kd.R_base ho0) hb);have n2_:=a0_ (Kd.R_elder' (rr_ HO12.out) (Kd.R_base ho0) hb);have n3_:=a0_ (Kd.R_below (rr_ HO20.out) hb);have n4_:=a0_ (Kd.R_elder' (rr_ HO24.out) (Kd.R_base ho0) hb);have n5_:=a0_ (Kd.R_lower (Kd.R_newB (Kd.R_new' (Kd.R_new' (Kd.R_new' ho0 (Kd.R_lt (rr_ HO9.out))) (Kd.R_lt (rr_ HO12.out))) (Kd.R_lt (rr_ HO24.out))) (g:=gb17) (o:=.cells #[.int .i64 t13,.int .i64 t14,.int .i64 t15] 38 (0,0)) (bb_ BK17.out)) (below_size hb_));have n6_:=a0_ (blk_below (g:=gb1) (o:=.cells #[.slice A0_0 l0_0.length c0_0] 24 (0,0)) (bb_ BK1.out) hb);have n7_:=a0_ (blk_below (g:=gb17) (o:=.cells #[.int .i64 t13,.int .i64 t14,.int .i64 t15] 38 (0,0)) (bb_ BK17.out) hb);have n8_:=a0_ (blk_below (g:=gb21) (o:=.cells #[.slice Ao35 t18.length co35] 35 (0,0)) (bb_ BK21.out) hb);have n9_:=a0_ (below_step hb_ hb);clear HO6 HO9;clear HO12 HO20;clear HO24 BK1;clear BK17 BK21 HB;have HO6:=n0_;have HO9:=n1_;have HO12:=n2_;have HO20:=n3_;have HO24:=n4_;have HO27:=n5_;have BK1:=n6_;have BK17:=n7_;have BK21:=n8_;have HB:=n9_;clear n0_ n1_ n2_ n3_ n4_ n5_ n6_ n7_ n8_ n9_;(try clear hb);(try clear hb2);(try clear hk);(try clear hi);(try clear ho0)) | ((with_reducible refine gate_dst (N:=12) rfl ?_);refine box_event ?hg (N:=12) ?hd (cs:=#[.int .i64 0,.int .i64 0,.int .i64 0]) (t:=38) ?hr ?_;(case hd=>rfl);(case hg=>rfl);(case hr=>first | (go_simp;done) | (go_simp;rfl));intro gb32 hg w43 hbox hb;have n0_:=a0_ (Kd.R_below (rr_ HO6.out) hb);have n1_:=a0_ (Kd.R_below (Kd.R_elderB (rr_ HO9.out) gb32 (Nat.le_of_eq hg.symm)) hb);have n2_:=a0_ (Kd.R_below (Kd.R_elderB (rr_ HO12.out) gb32 (Nat.le_of_eq hg.symm)) hb);have n3_:=a0_ (Kd.R_below (rr_ HO20.out) hb);have n4_:=a0_ (Kd.R_below (Kd.R_elderB (rr_ HO24.out) gb32 (Nat.le_of_eq hg.symm)) hb);have n5_:=a0_ (Kd.R_below (Kd.R_elderB (rr_ HO27.out) gb32 (Nat.le_of_eq hg.symm)) hb);have n6_:=a0_ (blk_below (g:=gb1) (o:=.cells #[.slice A0_0 l0_0.length c0_0] 24 (0,0)) (bb_ BK1.out) hb);have n7_:=a0_ (blk_below (g:=gb17) (o:=.cells #[.int .i64 t13,.int .i64 t14,.int .i64 t15] 38 (0,0)) (bb_ BK17.out) hb);have n8_:=a0_ (blk_below (g:=gb21) (o:=.cells #[.slice Ao35 t18.length co35] 35 (0,0)) (bb_ BK21.out) hb);have n9_:=a0_ (below_step hb_ hb);have n10_:=a0_ (hbox);have n11_:=a0_ ((by rw [hg];exact (below_size hb_) : w.heap.size ≤ gb32));have n12_:=a0_ ((by rw [hg];exact (below_size hb_) : w.heap.size ≤ gb32));have n13_:=a0_ ((by rw [hg];exact Nat.ne_of_lt (blk_lt (g:=gb1) (o:=.cells #[.slice A0_0 l0_0.length c0_0] 24 (0,0)) (bb_ BK1.out)) : gb1 ≠ gb32));have n14_:=a0_ ((by rw [hg];exact Nat.ne_of_gt (blk_lt (g:=gb1) (o:=.cells #[.slice A0_0 l0_0.length c0_0] 24 (0,0)) (bb_ BK1.out)) : gb32 ≠ gb1));have n15_:=a0_ ((by rw [hg];exact Nat.ne_of_lt (blk_lt (g:=gb17) (o:=.cells #[.int .i64 t13,.int .i64 t14,.int .i64 t15] 38 (0,0)) (bb_ BK17.out)) : gb17 ≠ gb32));have n16_:=a0_ ((by rw [hg];exact Nat.ne_of_gt (blk_lt (g:=gb17) (o:=.cells #[.int .i64 t13,.int .i64 t14,.int .i64 t15] 38 (0,0)) (bb_ BK17.out)) : gb32 ≠ gb17));have n17_:=a0_ ((by rw [hg];exact Nat.ne_of_lt (blk_lt (g:=gb21) (o:=.cells #[.slice Ao35 t18.length co35] 35 (0,0)) (bb_ BK21.out)) : gb21 ≠ gb32));have n18_:=a0_ ((by rw [hg];exact Nat.ne_of_gt (blk_lt (g:=gb21) (o:=.cells #[.slice Ao35 t18.length co35] 35 (0,0)) (bb_ BK21.out)) : gb32 ≠ gb21));clear HO6 HO9;clear HO12 HO20;clear HO24 HO27;clear BK1 BK17;clear BK21 HB;have HO6:=n0_;have HO9:=n1_;have HO12:=n2_;have HO20:=n3_;have HO24:=n4_;have HO27:=n5_;have BK1:=n6_;have BK17:=n7_;have BK21:=n8_;have HB:=n9_;have BK32:=n10_;have GW32:=n11_;have GE32:=n12_;have NB1_32:=n13_;have NB32_1:=n14_;have NB17_32:=n15_;have NB32_17:=n16_;have NB21_32:=n17_;have NB32_21:=n18_;clear n0_ n1_ n2_ n3_ n4_ n5_ n6_ n7_ n8_ n9_ n10_ n11_ n12_ n13_ n14_ n15_ n16_ n17_ n18_;clear hb hbox hg;have hnb44:=NB32_1.out;have hnc44:=NB1_32.out;have hnb45:=NB32_17.out;have hnc45:=NB17_32.out;have hnb46:=NB32_21.out;have hnc46:=NB21_32.out;have hcz47_0 : w43.cell? ⟨gb32,0,none⟩ = some (.int .i64 0):=(blk_cell BK32.out 0).trans rfl;have hcz47_1 : w43.cell? ⟨gb32,1,none⟩ = some (.int .i64 0):=(blk_cell BK32.out 1).trans rfl;have hcz47_2 : w43.cell? ⟨gb32,2,none⟩ = some (.int .i64 0):=(blk_cell BK32.out 2).trans rfl;have hfz47_0:=blk_frozen BK32.out 0;have hfz47_1:=blk_frozen BK32.out 1;have hfz47_2:=blk_frozen BK32.out 2))
   (try simp only [Act.put,List.setIfInBounds_toArray,List.set_cons_zero,List.set_cons_succ])
   go_cut [64] (fun v64 wc=>∃ (kq : Nat) (x64_18 : Bool),v64 = .bool x64_18 ∧ Aside0 (laws_FnExactPopExit.j0 kq l1 t10 t16 t22 t25 t31 x64_18 l0_0 t13 t14 t15 t18 t28 t29 t30 = some r) ∧ Aside0 (kq ≤ k) ∧ Aside0 (Kd.R k38 38 wc w.heap.size (fun k_=>some k_ ≠ ((.slice Ao41 t22.length co41) : Value).ownBlock ∧ some k_ ≠ (v26 : Value).ownBlock ∧ k_ ≠ gb17 ∧ k_ ≠ gb32) v11 t10) ∧ Aside0 (Kd.R k38 38 wc w.heap.size (fun k_=>some k_ ≠ (v11 : Value).ownBlock ∧ some k_ ≠ (v26 : Value).ownBlock ∧ k_ ≠ gb17 ∧ k_ ≠ gb32) (.slice Ao41 t22.length co41) t22) ∧ Aside0 (Kd.R k38 38 wc w.heap.size (fun k_=>some k_ ≠ (v11 : Value).ownBlock ∧ some k_ ≠ ((.slice Ao41 t22.length co41) : Value).ownBlock ∧ k_ ≠ gb17 ∧ k_ ≠ gb32) v26 t25) ∧ Aside0 (Kd.R k76 76 wc w.heap.size (fun _=>True) (.slice Ao35 t18.length co35) t18) ∧ Aside0 (wc.heap[gb1]? = some (.cells #[(.slice A0_0 l0_0.length c0_0)] 24 (0,0))) ∧ Aside0 (wc.heap[gb17]? = some (.cells #[.int .i64 t13,.int .i64 t14,.int .i64 t15] 38 (0,0))) ∧ Aside0 (wc.heap[gb21]? = some (.cells #[(.slice Ao35 t18.length co35)] 35 (0,0))) ∧ Aside0 (wc.heap[gb32]? = some (.cells #[.int .i64 t28,.int .i64 t29,.int .i64 t30] 38 (0,0))) ∧ Aside0 (Below w.heap.size w wc))
   case first =>
    have H:=HC19.out
    clear HC19
    replace H:=Option.bind_eq_some_iff.mp H
    obtain ⟨t33,A480,H⟩:=H
    replace H : (if t33 = true then ((laws_eqExit.f t28 t29 t30 t13 t14 t15).bind fun t34=>(if t34 = true then (laws_FnExactPopExit.j0 k l1 t10 t16 t22 t25 t31 (t31 != t16) l0_0 t13 t14 t15 t18 t28 t29 t30) else (laws_FnExactPopExit.j0 k l1 t10 t16 t22 t25 t31 true l0_0 t13 t14 t15 t18 t28 t29 t30))) else (laws_FnExactPopExit.j0 k l1 t10 t16 t22 t25 t31 true l0_0 t13 t14 t15 t18 t28 t29 t30)) = some r:=H
    have A48:=a0_ A480
    clear A480
    by_cases c49 : t33 = true
    ·subst c49
     have H1 : ((laws_eqExit.f t28 t29 t30 t13 t14 t15).bind fun t34=>(if t34 = true then (laws_FnExactPopExit.j0 k l1 t10 t16 t22 t25 t31 (t31 != t16) l0_0 t13 t14 t15 t18 t28 t29 t30) else (laws_FnExactPopExit.j0 k l1 t10 t16 t22 t25 t31 true l0_0 t13 t14 t15 t18 t28 t29 t30))) = some r:=by rw [if_pos rfl] at H;exact H
     clear H
     have H:=H1
     clear H1
     replace H:=Option.bind_eq_some_iff.mp H
     obtain ⟨t34,A500,H⟩:=H
     replace H : (if t34 = true then (laws_FnExactPopExit.j0 k l1 t10 t16 t22 t25 t31 (t31 != t16) l0_0 t13 t14 t15 t18 t28 t29 t30) else (laws_FnExactPopExit.j0 k l1 t10 t16 t22 t25 t31 true l0_0 t13 t14 t15 t18 t28 t29 t30)) = some r:=H
     have A50:=a0_ A500
     clear A500
     by_cases c51 : t34 = true
     ·subst c51
      have H1 : (laws_FnExactPopExit.j0 k l1 t10 t16 t22 t25 t31 (t31 != t16) l0_0 t13 t14 t15 t18 t28 t29 t30) = some r:=by rw [if_pos rfl] at H;exact H
      clear H
      have H:=H1
      clear H1
      have H':=a0_ H
      clear H
      obtain ⟨Ao52,co52,eo52⟩:=Kd.R_slice HO27.out
      subst eo52
      obtain ⟨Ao53,co53,eo53⟩:=Kd.R_slice HO12.out
      subst eo53
      go_wp2_with (first | ((with_reducible refine gate_callee (f:=14) rfl ?_);refine goesL_ (some 52) rfl rfl Try.func14 (by kernel_rfl) rfl #[.slice Ao52 t25.length co52,.slice Ao53 t10.length co53] rfl lm_ ?_;(with_reducible refine (laws_eqExitS.calls k _ _ t25 _ _ t10 true _ ?side1 ?side2 ?side3 ?side4 A48.out).mono ?_);(case side1=>refine (Kd.R_reads' (e:=38) (base:=w.heap.size) (ok:=fun k_=>(((((True ∧ some k_ ≠ (.slice Ao27 t7.length co27 : Value).ownBlock) ∧ some k_ ≠ (.slice Ao53 t10.length co53 : Value).ownBlock) ∧ some k_ ≠ (.slice Ao41 t22.length co41 : Value).ownBlock) ∧ k_ ≠ gb17) ∧ k_ ≠ gb32)) (n:=t25.length) (c:=co52) ?_).2.2;exact (by (with_reducible repeat (first | apply Kd.R_alloc | apply Kd.R_drewN | apply Kd.R_drew));exact (Kd.R_mono (Kd.R_far (p:=⟨gb32,2,none⟩) (Kd.R_far (p:=⟨gb32,1,none⟩) (Kd.R_far (p:=⟨gb32,0,none⟩) (Kd.R_mono HO27.out (fun k_ hk=>(⟨hk,hk.2⟩ : _ ∧ k_ ≠ gb32))) (fun _ hk=>hk.2) (.int .i64 t28)) (fun _ hk=>hk.2) (.int .i64 t29)) (fun _ hk=>hk.2) (.int .i64 t30)) (fun _ h_=>h_.1))));(case side2=>exact (Kd.R_reads' HO27.out).2.1);(case side3=>refine (Kd.R_reads' (e:=38) (base:=w.heap.size) (ok:=fun k_=>(((((True ∧ some k_ ≠ (.slice Ao27 t7.length co27 : Value).ownBlock) ∧ k_ ≠ gb17) ∧ some k_ ≠ (.slice Ao41 t22.length co41 : Value).ownBlock) ∧ some k_ ≠ (.slice Ao52 t25.length co52 : Value).ownBlock) ∧ k_ ≠ gb32)) (n:=t10.length) (c:=co53) ?_).2.2;exact (by (with_reducible repeat (first | apply Kd.R_alloc | apply Kd.R_drewN | apply Kd.R_drew));exact (Kd.R_mono (Kd.R_far (p:=⟨gb32,2,none⟩) (Kd.R_far (p:=⟨gb32,1,none⟩) (Kd.R_far (p:=⟨gb32,0,none⟩) (Kd.R_mono HO12.out (fun k_ hk=>(⟨hk,hk.2⟩ : _ ∧ k_ ≠ gb32))) (fun _ hk=>hk.2) (.int .i64 t28)) (fun _ hk=>hk.2) (.int .i64 t29)) (fun _ hk=>hk.2) (.int .i64 t30)) (fun _ h_=>h_.1))));(case side4=>exact (Kd.R_reads' HO12.out).2.1);rintro e w54 ⟨rfl,hb⟩;refine ⟨_,rfl,?_⟩;have n0_:=a0_ (Kd.R_below (by (with_reducible repeat (first | apply Kd.R_alloc | apply Kd.R_drewN | apply Kd.R_drew));exact (Kd.R_mono (Kd.R_far (p:=⟨gb32,2,none⟩) (Kd.R_far (p:=⟨gb32,1,none⟩) (Kd.R_far (p:=⟨gb32,0,none⟩) (Kd.R_types HO6.out BK32.out (by decide)) (fun _ hk=>hk.2) (.int .i64 t28)) (fun _ hk=>hk.2) (.int .i64 t29)) (fun _ hk=>hk.2) (.int .i64 t30)) (fun _ h_=>h_.1))) hb);have n1_:=a0_ (Kd.R_below (by (with_reducible repeat (first | apply Kd.R_alloc | apply Kd.R_drewN | apply Kd.R_drew));exact (Kd.R_mono (Kd.R_far (p:=⟨gb32,2,none⟩) (Kd.R_far (p:=⟨gb32,1,none⟩) (Kd.R_far (p:=⟨gb32,0,none⟩) (Kd.R_mono HO9.out (fun k_ hk=>(⟨hk,hk.2⟩ : _ ∧ k_ ≠ gb32))) (fun _ hk=>hk.2) (.int .i64 t28)) (fun _ hk=>hk.2) (.int .i64 t29)) (fun _ hk=>hk.2) (.int .i64 t30)) (fun _ h_=>h_.1))) hb);have n2_:=a0_ (Kd.R_below (by (with_reducible repeat (first | apply Kd.R_alloc | apply Kd.R_drewN | apply Kd.R_drew));exact (Kd.R_mono (Kd.R_far (p:=⟨gb32,2,none⟩) (Kd.R_far (p:=⟨gb32,1,none⟩) (Kd.R_far (p:=⟨gb32,0,none⟩) (Kd.R_mono HO12.out (fun k_ hk=>(⟨hk,hk.2⟩ : _ ∧ k_ ≠ gb32))) (fun _ hk=>hk.2) (.int .i64 t28)) (fun _ hk=>hk.2) (.int .i64 t29)) (fun _ hk=>hk.2) (.int .i64 t30)) (fun _ h_=>h_.1))) hb);have n3_:=a0_ (Kd.R_below (by (with_reducible repeat (first | apply Kd.R_alloc | apply Kd.R_drewN | apply Kd.R_drew));exact (Kd.R_mono (Kd.R_far (p:=⟨gb32,2,none⟩) (Kd.R_far (p:=⟨gb32,1,none⟩) (Kd.R_far (p:=⟨gb32,0,none⟩) (Kd.R_types HO20.out BK32.out (by decide)) (fun _ hk=>hk.2) (.int .i64 t28)) (fun _ hk=>hk.2) (.int .i64 t29)) (fun _ hk=>hk.2) (.int .i64 t30)) (fun _ h_=>h_.1))) hb);have n4_:=a0_ (Kd.R_below (by (with_reducible repeat (first | apply Kd.R_alloc | apply Kd.R_drewN | apply Kd.R_drew));exact (Kd.R_mono (Kd.R_far (p:=⟨gb32,2,none⟩) (Kd.R_far (p:=⟨gb32,1,none⟩) (Kd.R_far (p:=⟨gb32,0,none⟩) (Kd.R_mono HO24.out (fun k_ hk=>(⟨hk,hk.2⟩ : _ ∧ k_ ≠ gb32))) (fun _ hk=>hk.2) (.int .i64 t28)) (fun _ hk=>hk.2) (.int .i64 t29)) (fun _ hk=>hk.2) (.int .i64 t30)) (fun _ h_=>h_.1))) hb);have n5_:=a0_ (Kd.R_below (by (with_reducible repeat (first | apply Kd.R_alloc | apply Kd.R_drewN | apply Kd.R_drew));exact (Kd.R_mono (Kd.R_far (p:=⟨gb32,2,none⟩) (Kd.R_far (p:=⟨gb32,1,none⟩) (Kd.R_far (p:=⟨gb32,0,none⟩) (Kd.R_mono HO27.out (fun k_ hk=>(⟨hk,hk.2⟩ : _ ∧ k_ ≠ gb32))) (fun _ hk=>hk.2) (.int .i64 t28)) (fun _ hk=>hk.2) (.int .i64 t29)) (fun _ hk=>hk.2) (.int .i64 t30)) (fun _ h_=>h_.1))) hb);have n6_:=a0_ (blk_below (g:=gb1) (o:=.cells #[.slice A0_0 l0_0.length c0_0] 24 (0,0)) (by (with_reducible repeat (first | refine blk_drewN ?_ _ | refine blk_drew ?_ | refine blk_alloc ?_ _));refine blk_far ?_ NB1_32.out _;(with_reducible repeat (first | refine blk_drewN ?_ _ | refine blk_drew ?_ | refine blk_alloc ?_ _));refine blk_far ?_ NB1_32.out _;(with_reducible repeat (first | refine blk_drewN ?_ _ | refine blk_drew ?_ | refine blk_alloc ?_ _));refine blk_far ?_ NB1_32.out _;(with_reducible repeat (first | refine blk_drewN ?_ _ | refine blk_drew ?_ | refine blk_alloc ?_ _));exact BK1.out) hb);have n7_:=a0_ (blk_below (g:=gb17) (o:=.cells #[.int .i64 t13,.int .i64 t14,.int .i64 t15] 38 (0,0)) (by (with_reducible repeat (first | refine blk_drewN ?_ _ | refine blk_drew ?_ | refine blk_alloc ?_ _));refine blk_far ?_ NB17_32.out _;(with_reducible repeat (first | refine blk_drewN ?_ _ | refine blk_drew ?_ | refine blk_alloc ?_ _));refine blk_far ?_ NB17_32.out _;(with_reducible repeat (first | refine blk_drewN ?_ _ | refine blk_drew ?_ | refine blk_alloc ?_ _));refine blk_far ?_ NB17_32.out _;(with_reducible repeat (first | refine blk_drewN ?_ _ | refine blk_drew ?_ | refine blk_alloc ?_ _));exact BK17.out) hb);have n8_:=a0_ (blk_below (g:=gb21) (o:=.cells #[.slice Ao35 t18.length co35] 35 (0,0)) (by (with_reducible repeat (first | refine blk_drewN ?_ _ | refine blk_drew ?_ | refine blk_alloc ?_ _));refine blk_far ?_ NB21_32.out _;(with_reducible repeat (first | refine blk_drewN ?_ _ | refine blk_drew ?_ | refine blk_alloc ?_ _));refine blk_far ?_ NB21_32.out _;(with_reducible repeat (first | refine blk_drewN ?_ _ | refine blk_drew ?_ | refine blk_alloc ?_ _));refine blk_far ?_ NB21_32.out _;(with_reducible repeat (first | refine blk_drewN ?_ _ | refine blk_drew ?_ | refine blk_alloc ?_ _));exact BK21.out) hb);have n9_:=a0_ (blk_below (g:=gb32) (o:=.cells #[.int .i64 t28,.int .i64 t29,.int .i64 t30] 38 (0,0)) (by (with_reducible repeat (first | refine blk_drewN ?_ _ | refine blk_drew ?_ | refine blk_alloc ?_ _));refine blk_put (cs:=#[.int .i64 t28,.int .i64 t29,.int .i64 0]) ?_ 2 _ rfl;(with_reducible repeat (first | refine blk_drewN ?_ _ | refine blk_drew ?_ | refine blk_alloc ?_ _));refine blk_put (cs:=#[.int .i64 t28,.int .i64 0,.int .i64 0]) ?_ 1 _ rfl;(with_reducible repeat (first | refine blk_drewN ?_ _ | refine blk_drew ?_ | refine blk_alloc ?_ _));refine blk_put (cs:=#[.int .i64 0,.int .i64 0,.int .i64 0]) ?_ 0 _ rfl;(with_reducible repeat (first | refine blk_drewN ?_ _ | refine blk_drew ?_ | refine blk_alloc ?_ _));exact BK32.out) hb);have n10_:=a0_ (below_step hb_ hb);clear HO6 HO9;clear HO12 HO20;clear HO24 HO27;clear BK1 BK17;clear BK21 BK32 HB;have HO6:=n0_;have HO9:=n1_;have HO12:=n2_;have HO20:=n3_;have HO24:=n4_;have HO27:=n5_;have BK1:=n6_;have BK17:=n7_;have BK21:=n8_;have BK32:=n9_;have HB:=n10_;clear n0_ n1_ n2_ n3_ n4_ n5_ n6_ n7_ n8_ n9_ n10_;(try clear hb);(try clear hb2);(try clear hk);(try clear hi);have hnb55:=NB32_1.out;have hnc55:=NB1_32.out;have hnb56:=NB32_17.out;have hnc56:=NB17_32.out;have hnb57:=NB32_21.out;have hnc57:=NB21_32.out;have hcz58_0 : w54.cell? ⟨gb32,0,none⟩ = some (.int .i64 t28):=(blk_cell BK32.out 0).trans rfl;have hcz58_1 : w54.cell? ⟨gb32,1,none⟩ = some (.int .i64 t29):=(blk_cell BK32.out 1).trans rfl;have hcz58_2 : w54.cell? ⟨gb32,2,none⟩ = some (.int .i64 t30):=(blk_cell BK32.out 2).trans rfl;have hfz58_0:=blk_frozen BK32.out 0;have hfz58_1:=blk_frozen BK32.out 1;have hfz58_2:=blk_frozen BK32.out 2;have hnb59:=NB17_1.out;have hnc59:=NB1_17.out;have hnb60:=NB17_21.out;have hnc60:=NB21_17.out;have hcz61_0 : w54.cell? ⟨gb17,0,none⟩ = some (.int .i64 t13):=(blk_cell BK17.out 0).trans rfl;have hcz61_1 : w54.cell? ⟨gb17,1,none⟩ = some (.int .i64 t14):=(blk_cell BK17.out 1).trans rfl;have hcz61_2 : w54.cell? ⟨gb17,2,none⟩ = some (.int .i64 t15):=(blk_cell BK17.out 2).trans rfl;have hfz61_0:=blk_frozen BK17.out 0;have hfz61_1:=blk_frozen BK17.out 1;have hfz61_2:=blk_frozen BK17.out 2) | (go_at_call 21;(with_reducible refine (laws_eqExit.calls t28 t29 t30 t13 t14 t15 true _ A50.out).mono ?_);rintro e w62 ⟨rfl,hb⟩;have n0_:=a0_ (Kd.R_below (rr_ HO6.out) hb);have n1_:=a0_ (Kd.R_below (rr_ HO9.out) hb);have n2_:=a0_ (Kd.R_below (rr_ HO12.out) hb);have n3_:=a0_ (Kd.R_below (rr_ HO20.out) hb);have n4_:=a0_ (Kd.R_below (rr_ HO24.out) hb);have n5_:=a0_ (Kd.R_below (rr_ HO27.out) hb);have n6_:=a0_ (blk_below (g:=gb1) (o:=.cells #[.slice A0_0 l0_0.length c0_0] 24 (0,0)) (bb_ BK1.out) hb);have n7_:=a0_ (blk_below (g:=gb17) (o:=.cells #[.int .i64 t13,.int .i64 t14,.int .i64 t15] 38 (0,0)) (bb_ BK17.out) hb);have n8_:=a0_ (blk_below (g:=gb21) (o:=.cells #[.slice Ao35 t18.length co35] 35 (0,0)) (bb_ BK21.out) hb);have n9_:=a0_ (blk_below (g:=gb32) (o:=.cells #[.int .i64 t28,.int .i64 t29,.int .i64 t30] 38 (0,0)) (bb_ BK32.out) hb);have n10_:=a0_ (below_step hb_ hb);clear HO6 HO9;clear HO12 HO20;clear HO24 HO27;clear BK1 BK17;clear BK21 BK32 HB;have HO6:=n0_;have HO9:=n1_;have HO12:=n2_;have HO20:=n3_;have HO24:=n4_;have HO27:=n5_;have BK1:=n6_;have BK17:=n7_;have BK21:=n8_;have BK32:=n9_;have HB:=n10_;clear n0_ n1_ n2_ n3_ n4_ n5_ n6_ n7_ n8_ n9_ n10_;(try clear hb);(try clear hb2);(try clear hk);(try clear hi)))
      go_meet
      case rel=>exact ⟨_,((t31 != t16)),(by first | rfl | (simp;done) | (simp [*];done)),H',⟨by first | omega | exact Nat.le_refl _⟩,⟨by (with_reducible repeat (first | apply Kd.R_alloc | apply Kd.R_drewN | apply Kd.R_drew));exact Kd.R_mono HO12.out (fun _ hk=>⟨hk.1.1.2,⟨hk.1.2,⟨hk.1.1.1.2,hk.2⟩⟩⟩)⟩,⟨by (with_reducible repeat (first | apply Kd.R_alloc | apply Kd.R_drewN | apply Kd.R_drew));exact Kd.R_mono HO24.out (fun _ hk=>⟨hk.1.1.1.2,⟨hk.1.2,⟨hk.1.1.2,hk.2⟩⟩⟩)⟩,⟨by (with_reducible repeat (first | apply Kd.R_alloc | apply Kd.R_drewN | apply Kd.R_drew));exact Kd.R_mono HO27.out (fun _ hk=>⟨hk.1.1.1.2,⟨hk.1.1.2,⟨hk.1.2,hk.2⟩⟩⟩)⟩,⟨by (with_reducible repeat (first | apply Kd.R_alloc | apply Kd.R_drewN | apply Kd.R_drew));exact Kd.R_mono HO20.out (fun _ hk=>trivial)⟩,⟨by (with_reducible repeat (first | refine blk_drewN ?_ _ | refine blk_drew ?_ | refine blk_alloc ?_ _));exact BK1.out⟩,⟨by (with_reducible repeat (first | refine blk_drewN ?_ _ | refine blk_drew ?_ | refine blk_alloc ?_ _));exact BK17.out⟩,⟨by (with_reducible repeat (first | refine blk_drewN ?_ _ | refine blk_drew ?_ | refine blk_alloc ?_ _));exact BK21.out⟩,⟨by (with_reducible repeat (first | refine blk_drewN ?_ _ | refine blk_drew ?_ | refine blk_alloc ?_ _));exact BK32.out⟩,⟨hb_⟩⟩
     ·replace c51:=Bool.eq_false_iff.mpr c51
      subst c51
      have H1 : (laws_FnExactPopExit.j0 k l1 t10 t16 t22 t25 t31 true l0_0 t13 t14 t15 t18 t28 t29 t30) = some r:=by rw [if_neg (show ¬ (false = true) by decide)] at H;exact H
      clear H
      have H:=H1
      clear H1
      have H':=a0_ H
      clear H
      obtain ⟨Ao63,co63,eo63⟩:=Kd.R_slice HO27.out
      subst eo63
      obtain ⟨Ao64,co64,eo64⟩:=Kd.R_slice HO12.out
      subst eo64
      go_wp2_with (first | ((with_reducible refine gate_callee (f:=14) rfl ?_);refine goesL_ (some 52) rfl rfl Try.func14 (by kernel_rfl) rfl #[.slice Ao63 t25.length co63,.slice Ao64 t10.length co64] rfl lm_ ?_;(with_reducible refine (laws_eqExitS.calls k _ _ t25 _ _ t10 true _ ?side1 ?side2 ?side3 ?side4 A48.out).mono ?_);(case side1=>refine (Kd.R_reads' (e:=38) (base:=w.heap.size) (ok:=fun k_=>(((((True ∧ some k_ ≠ (.slice Ao27 t7.length co27 : Value).ownBlock) ∧ some k_ ≠ (.slice Ao64 t10.length co64 : Value).ownBlock) ∧ some k_ ≠ (.slice Ao41 t22.length co41 : Value).ownBlock) ∧ k_ ≠ gb17) ∧ k_ ≠ gb32)) (n:=t25.length) (c:=co63) ?_).2.2;exact (by (with_reducible repeat (first | apply Kd.R_alloc | apply Kd.R_drewN | apply Kd.R_drew));exact (Kd.R_mono (Kd.R_far (p:=⟨gb32,2,none⟩) (Kd.R_far (p:=⟨gb32,1,none⟩) (Kd.R_far (p:=⟨gb32,0,none⟩) (Kd.R_mono HO27.out (fun k_ hk=>(⟨hk,hk.2⟩ : _ ∧ k_ ≠ gb32))) (fun _ hk=>hk.2) (.int .i64 t28)) (fun _ hk=>hk.2) (.int .i64 t29)) (fun _ hk=>hk.2) (.int .i64 t30)) (fun _ h_=>h_.1))));(case side2=>exact (Kd.R_reads' HO27.out).2.1);(case side3=>refine (Kd.R_reads' (e:=38) (base:=w.heap.size) (ok:=fun k_=>(((((True ∧ some k_ ≠ (.slice Ao27 t7.length co27 : Value).ownBlock) ∧ k_ ≠ gb17) ∧ some k_ ≠ (.slice Ao41 t22.length co41 : Value).ownBlock) ∧ some k_ ≠ (.slice Ao63 t25.length co63 : Value).ownBlock) ∧ k_ ≠ gb32)) (n:=t10.length) (c:=co64) ?_).2.2;exact (by (with_reducible repeat (first | apply Kd.R_alloc | apply Kd.R_drewN | apply Kd.R_drew));exact (Kd.R_mono (Kd.R_far (p:=⟨gb32,2,none⟩) (Kd.R_far (p:=⟨gb32,1,none⟩) (Kd.R_far (p:=⟨gb32,0,none⟩) (Kd.R_mono HO12.out (fun k_ hk=>(⟨hk,hk.2⟩ : _ ∧ k_ ≠ gb32))) (fun _ hk=>hk.2) (.int .i64 t28)) (fun _ hk=>hk.2) (.int .i64 t29)) (fun _ hk=>hk.2) (.int .i64 t30)) (fun _ h_=>h_.1))));(case side4=>exact (Kd.R_reads' HO12.out).2.1);rintro e w65 ⟨rfl,hb⟩;refine ⟨_,rfl,?_⟩;have n0_:=a0_ (Kd.R_below (by (with_reducible repeat (first | apply Kd.R_alloc | apply Kd.R_drewN | apply Kd.R_drew));exact (Kd.R_mono (Kd.R_far (p:=⟨gb32,2,none⟩) (Kd.R_far (p:=⟨gb32,1,none⟩) (Kd.R_far (p:=⟨gb32,0,none⟩) (Kd.R_types HO6.out BK32.out (by decide)) (fun _ hk=>hk.2) (.int .i64 t28)) (fun _ hk=>hk.2) (.int .i64 t29)) (fun _ hk=>hk.2) (.int .i64 t30)) (fun _ h_=>h_.1))) hb);have n1_:=a0_ (Kd.R_below (by (with_reducible repeat (first | apply Kd.R_alloc | apply Kd.R_drewN | apply Kd.R_drew));exact (Kd.R_mono (Kd.R_far (p:=⟨gb32,2,none⟩) (Kd.R_far (p:=⟨gb32,1,none⟩) (Kd.R_far (p:=⟨gb32,0,none⟩) (Kd.R_mono HO9.out (fun k_ hk=>(⟨hk,hk.2⟩ : _ ∧ k_ ≠ gb32))) (fun _ hk=>hk.2) (.int .i64 t28)) (fun _ hk=>hk.2) (.int .i64 t29)) (fun _ hk=>hk.2) (.int .i64 t30)) (fun _ h_=>h_.1))) hb);have n2_:=a0_ (Kd.R_below (by (with_reducible repeat (first | apply Kd.R_alloc | apply Kd.R_drewN | apply Kd.R_drew));exact (Kd.R_mono (Kd.R_far (p:=⟨gb32,2,none⟩) (Kd.R_far (p:=⟨gb32,1,none⟩) (Kd.R_far (p:=⟨gb32,0,none⟩) (Kd.R_mono HO12.out (fun k_ hk=>(⟨hk,hk.2⟩ : _ ∧ k_ ≠ gb32))) (fun _ hk=>hk.2) (.int .i64 t28)) (fun _ hk=>hk.2) (.int .i64 t29)) (fun _ hk=>hk.2) (.int .i64 t30)) (fun _ h_=>h_.1))) hb);have n3_:=a0_ (Kd.R_below (by (with_reducible repeat (first | apply Kd.R_alloc | apply Kd.R_drewN | apply Kd.R_drew));exact (Kd.R_mono (Kd.R_far (p:=⟨gb32,2,none⟩) (Kd.R_far (p:=⟨gb32,1,none⟩) (Kd.R_far (p:=⟨gb32,0,none⟩) (Kd.R_types HO20.out BK32.out (by decide)) (fun _ hk=>hk.2) (.int .i64 t28)) (fun _ hk=>hk.2) (.int .i64 t29)) (fun _ hk=>hk.2) (.int .i64 t30)) (fun _ h_=>h_.1))) hb);have n4_:=a0_ (Kd.R_below (by (with_reducible repeat (first | apply Kd.R_alloc | apply Kd.R_drewN | apply Kd.R_drew));exact (Kd.R_mono (Kd.R_far (p:=⟨gb32,2,none⟩) (Kd.R_far (p:=⟨gb32,1,none⟩) (Kd.R_far (p:=⟨gb32,0,none⟩) (Kd.R_mono HO24.out (fun k_ hk=>(⟨hk,hk.2⟩ : _ ∧ k_ ≠ gb32))) (fun _ hk=>hk.2) (.int .i64 t28)) (fun _ hk=>hk.2) (.int .i64 t29)) (fun _ hk=>hk.2) (.int .i64 t30)) (fun _ h_=>h_.1))) hb);have n5_:=a0_ (Kd.R_below (by (with_reducible repeat (first | apply Kd.R_alloc | apply Kd.R_drewN | apply Kd.R_drew));exact (Kd.R_mono (Kd.R_far (p:=⟨gb32,2,none⟩) (Kd.R_far (p:=⟨gb32,1,none⟩) (Kd.R_far (p:=⟨gb32,0,none⟩) (Kd.R_mono HO27.out (fun k_ hk=>(⟨hk,hk.2⟩ : _ ∧ k_ ≠ gb32))) (fun _ hk=>hk.2) (.int .i64 t28)) (fun _ hk=>hk.2) (.int .i64 t29)) (fun _ hk=>hk.2) (.int .i64 t30)) (fun _ h_=>h_.1))) hb);have n6_:=a0_ (blk_below (g:=gb1) (o:=.cells #[.slice A0_0 l0_0.length c0_0] 24 (0,0)) (by (with_reducible repeat (first | refine blk_drewN ?_ _ | refine blk_drew ?_ | refine blk_alloc ?_ _));refine blk_far ?_ NB1_32.out _;(with_reducible repeat (first | refine blk_drewN ?_ _ | refine blk_drew ?_ | refine blk_alloc ?_ _));refine blk_far ?_ NB1_32.out _;(with_reducible repeat (first | refine blk_drewN ?_ _ | refine blk_drew ?_ | refine blk_alloc ?_ _));refine blk_far ?_ NB1_32.out _;(with_reducible repeat (first | refine blk_drewN ?_ _ | refine blk_drew ?_ | refine blk_alloc ?_ _));exact BK1.out) hb);have n7_:=a0_ (blk_below (g:=gb17) (o:=.cells #[.int .i64 t13,.int .i64 t14,.int .i64 t15] 38 (0,0)) (by (with_reducible repeat (first | refine blk_drewN ?_ _ | refine blk_drew ?_ | refine blk_alloc ?_ _));refine blk_far ?_ NB17_32.out _;(with_reducible repeat (first | refine blk_drewN ?_ _ | refine blk_drew ?_ | refine blk_alloc ?_ _));refine blk_far ?_ NB17_32.out _;(with_reducible repeat (first | refine blk_drewN ?_ _ | refine blk_drew ?_ | refine blk_alloc ?_ _));refine blk_far ?_ NB17_32.out _;(with_reducible repeat (first | refine blk_drewN ?_ _ | refine blk_drew ?_ | refine blk_alloc ?_ _));exact BK17.out) hb);have n8_:=a0_ (blk_below (g:=gb21) (o:=.cells #[.slice Ao35 t18.length co35] 35 (0,0)) (by (with_reducible repeat (first | refine blk_drewN ?_ _ | refine blk_drew ?_ | refine blk_alloc ?_ _));refine blk_far ?_ NB21_32.out _;(with_reducible repeat (first | refine blk_drewN ?_ _ | refine blk_drew ?_ | refine blk_alloc ?_ _));refine blk_far ?_ NB21_32.out _;(with_reducible repeat (first | refine blk_drewN ?_ _ | refine blk_drew ?_ | refine blk_alloc ?_ _));refine blk_far ?_ NB21_32.out _;(with_reducible repeat (first | refine blk_drewN ?_ _ | refine blk_drew ?_ | refine blk_alloc ?_ _));exact BK21.out) hb);have n9_:=a0_ (blk_below (g:=gb32) (o:=.cells #[.int .i64 t28,.int .i64 t29,.int .i64 t30] 38 (0,0)) (by (with_reducible repeat (first | refine blk_drewN ?_ _ | refine blk_drew ?_ | refine blk_alloc ?_ _));refine blk_put (cs:=#[.int .i64 t28,.int .i64 t29,.int .i64 0]) ?_ 2 _ rfl;(with_reducible repeat (first | refine blk_drewN ?_ _ | refine blk_drew ?_ | refine blk_alloc ?_ _));refine blk_put (cs:=#[.int .i64 t28,.int .i64 0,.int .i64 0]) ?_ 1 _ rfl;(with_reducible repeat (first | refine blk_drewN ?_ _ | refine blk_drew ?_ | refine blk_alloc ?_ _));refine blk_put (cs:=#[.int .i64 0,.int .i64 0,.int .i64 0]) ?_ 0 _ rfl;(with_reducible repeat (first | refine blk_drewN ?_ _ | refine blk_drew ?_ | refine blk_alloc ?_ _));exact BK32.out) hb);have n10_:=a0_ (below_step hb_ hb);clear HO6 HO9;clear HO12 HO20;clear HO24 HO27;clear BK1 BK17;clear BK21 BK32 HB;have HO6:=n0_;have HO9:=n1_;have HO12:=n2_;have HO20:=n3_;have HO24:=n4_;have HO27:=n5_;have BK1:=n6_;have BK17:=n7_;have BK21:=n8_;have BK32:=n9_;have HB:=n10_;clear n0_ n1_ n2_ n3_ n4_ n5_ n6_ n7_ n8_ n9_ n10_;(try clear hb);(try clear hb2);(try clear hk);(try clear hi);have hnb66:=NB32_1.out;have hnc66:=NB1_32.out;have hnb67:=NB32_17.out;have hnc67:=NB17_32.out;have hnb68:=NB32_21.out;have hnc68:=NB21_32.out;have hcz69_0 : w65.cell? ⟨gb32,0,none⟩ = some (.int .i64 t28):=(blk_cell BK32.out 0).trans rfl;have hcz69_1 : w65.cell? ⟨gb32,1,none⟩ = some (.int .i64 t29):=(blk_cell BK32.out 1).trans rfl;have hcz69_2 : w65.cell? ⟨gb32,2,none⟩ = some (.int .i64 t30):=(blk_cell BK32.out 2).trans rfl;have hfz69_0:=blk_frozen BK32.out 0;have hfz69_1:=blk_frozen BK32.out 1;have hfz69_2:=blk_frozen BK32.out 2;have hnb70:=NB17_1.out;have hnc70:=NB1_17.out;have hnb71:=NB17_21.out;have hnc71:=NB21_17.out;have hcz72_0 : w65.cell? ⟨gb17,0,none⟩ = some (.int .i64 t13):=(blk_cell BK17.out 0).trans rfl;have hcz72_1 : w65.cell? ⟨gb17,1,none⟩ = some (.int .i64 t14):=(blk_cell BK17.out 1).trans rfl;have hcz72_2 : w65.cell? ⟨gb17,2,none⟩ = some (.int .i64 t15):=(blk_cell BK17.out 2).trans rfl;have hfz72_0:=blk_frozen BK17.out 0;have hfz72_1:=blk_frozen BK17.out 1;have hfz72_2:=blk_frozen BK17.out 2) | (go_at_call 21;(with_reducible refine (laws_eqExit.calls t28 t29 t30 t13 t14 t15 false _ A50.out).mono ?_);rintro e w73 ⟨rfl,hb⟩;have n0_:=a0_ (Kd.R_below (rr_ HO6.out) hb);have n1_:=a0_ (Kd.R_below (rr_ HO9.out) hb);have n2_:=a0_ (Kd.R_below (rr_ HO12.out) hb);have n3_:=a0_ (Kd.R_below (rr_ HO20.out) hb);have n4_:=a0_ (Kd.R_below (rr_ HO24.out) hb);have n5_:=a0_ (Kd.R_below (rr_ HO27.out) hb);have n6_:=a0_ (blk_below (g:=gb1) (o:=.cells #[.slice A0_0 l0_0.length c0_0] 24 (0,0)) (bb_ BK1.out) hb);have n7_:=a0_ (blk_below (g:=gb17) (o:=.cells #[.int .i64 t13,.int .i64 t14,.int .i64 t15] 38 (0,0)) (bb_ BK17.out) hb);have n8_:=a0_ (blk_below (g:=gb21) (o:=.cells #[.slice Ao35 t18.length co35] 35 (0,0)) (bb_ BK21.out) hb);have n9_:=a0_ (blk_below (g:=gb32) (o:=.cells #[.int .i64 t28,.int .i64 t29,.int .i64 t30] 38 (0,0)) (bb_ BK32.out) hb);have n10_:=a0_ (below_step hb_ hb);clear HO6 HO9;clear HO12 HO20;clear HO24 HO27;clear BK1 BK17;clear BK21 BK32 HB;have HO6:=n0_;have HO9:=n1_;have HO12:=n2_;have HO20:=n3_;have HO24:=n4_;have HO27:=n5_;have BK1:=n6_;have BK17:=n7_;have BK21:=n8_;have BK32:=n9_;have HB:=n10_;clear n0_ n1_ n2_ n3_ n4_ n5_ n6_ n7_ n8_ n9_ n10_;(try clear hb);(try clear hb2);(try clear hk);(try clear hi)))
      go_meet
      case rel=>exact ⟨_,(true),(by first | rfl | (simp;done) | (simp [*];done)),H',⟨by first | omega | exact Nat.le_refl _⟩,⟨by (with_reducible repeat (first | apply Kd.R_alloc | apply Kd.R_drewN | apply Kd.R_drew));exact Kd.R_mono HO12.out (fun _ hk=>⟨hk.1.1.2,⟨hk.1.2,⟨hk.1.1.1.2,hk.2⟩⟩⟩)⟩,⟨by (with_reducible repeat (first | apply Kd.R_alloc | apply Kd.R_drewN | apply Kd.R_drew));exact Kd.R_mono HO24.out (fun _ hk=>⟨hk.1.1.1.2,⟨hk.1.2,⟨hk.1.1.2,hk.2⟩⟩⟩)⟩,⟨by (with_reducible repeat (first | apply Kd.R_alloc | apply Kd.R_drewN | apply Kd.R_drew));exact Kd.R_mono HO27.out (fun _ hk=>⟨hk.1.1.1.2,⟨hk.1.1.2,⟨hk.1.2,hk.2⟩⟩⟩)⟩,⟨by (with_reducible repeat (first | apply Kd.R_alloc | apply Kd.R_drewN | apply Kd.R_drew));exact Kd.R_mono HO20.out (fun _ hk=>trivial)⟩,⟨by (with_reducible repeat (first | refine blk_drewN ?_ _ | refine blk_drew ?_ | refine blk_alloc ?_ _));exact BK1.out⟩,⟨by (with_reducible repeat (first | refine blk_drewN ?_ _ | refine blk_drew ?_ | refine blk_alloc ?_ _));exact BK17.out⟩,⟨by (with_reducible repeat (first | refine blk_drewN ?_ _ | refine blk_drew ?_ | refine blk_alloc ?_ _));exact BK21.out⟩,⟨by (with_reducible repeat (first | refine blk_drewN ?_ _ | refine blk_drew ?_ | refine blk_alloc ?_ _));exact BK32.out⟩,⟨hb_⟩⟩
    ·replace c49:=Bool.eq_false_iff.mpr c49
     subst c49
     have H1 : (laws_FnExactPopExit.j0 k l1 t10 t16 t22 t25 t31 true l0_0 t13 t14 t15 t18 t28 t29 t30) = some r:=by rw [if_neg (show ¬ (false = true) by decide)] at H;exact H
     clear H
     have H:=H1
     clear H1
     have H':=a0_ H
     clear H
     obtain ⟨Ao74,co74,eo74⟩:=Kd.R_slice HO27.out
     subst eo74
     obtain ⟨Ao75,co75,eo75⟩:=Kd.R_slice HO12.out
     subst eo75
     go_wp2_with (first | ((with_reducible refine gate_callee (f:=14) rfl ?_);refine goesL_ (some 52) rfl rfl Try.func14 (by kernel_rfl) rfl #[.slice Ao74 t25.length co74,.slice Ao75 t10.length co75] rfl lm_ ?_;(with_reducible refine (laws_eqExitS.calls k _ _ t25 _ _ t10 false _ ?side1 ?side2 ?side3 ?side4 A48.out).mono ?_);(case side1=>refine (Kd.R_reads' (e:=38) (base:=w.heap.size) (ok:=fun k_=>(((((True ∧ some k_ ≠ (.slice Ao27 t7.length co27 : Value).ownBlock) ∧ some k_ ≠ (.slice Ao75 t10.length co75 : Value).ownBlock) ∧ some k_ ≠ (.slice Ao41 t22.length co41 : Value).ownBlock) ∧ k_ ≠ gb17) ∧ k_ ≠ gb32)) (n:=t25.length) (c:=co74) ?_).2.2;exact (by (with_reducible repeat (first | apply Kd.R_alloc | apply Kd.R_drewN | apply Kd.R_drew));exact (Kd.R_mono (Kd.R_far (p:=⟨gb32,2,none⟩) (Kd.R_far (p:=⟨gb32,1,none⟩) (Kd.R_far (p:=⟨gb32,0,none⟩) (Kd.R_mono HO27.out (fun k_ hk=>(⟨hk,hk.2⟩ : _ ∧ k_ ≠ gb32))) (fun _ hk=>hk.2) (.int .i64 t28)) (fun _ hk=>hk.2) (.int .i64 t29)) (fun _ hk=>hk.2) (.int .i64 t30)) (fun _ h_=>h_.1))));(case side2=>exact (Kd.R_reads' HO27.out).2.1);(case side3=>refine (Kd.R_reads' (e:=38) (base:=w.heap.size) (ok:=fun k_=>(((((True ∧ some k_ ≠ (.slice Ao27 t7.length co27 : Value).ownBlock) ∧ k_ ≠ gb17) ∧ some k_ ≠ (.slice Ao41 t22.length co41 : Value).ownBlock) ∧ some k_ ≠ (.slice Ao74 t25.length co74 : Value).ownBlock) ∧ k_ ≠ gb32)) (n:=t10.length) (c:=co75) ?_).2.2;exact (by (with_reducible repeat (first | apply Kd.R_alloc | apply Kd.R_drewN | apply Kd.R_drew));exact (Kd.R_mono (Kd.R_far (p:=⟨gb32,2,none⟩) (Kd.R_far (p:=⟨gb32,1,none⟩) (Kd.R_far (p:=⟨gb32,0,none⟩) (Kd.R_mono HO12.out (fun k_ hk=>(⟨hk,hk.2⟩ : _ ∧ k_ ≠ gb32))) (fun _ hk=>hk.2) (.int .i64 t28)) (fun _ hk=>hk.2) (.int .i64 t29)) (fun _ hk=>hk.2) (.int .i64 t30)) (fun _ h_=>h_.1))));(case side4=>exact (Kd.R_reads' HO12.out).2.1);rintro e w76 ⟨rfl,hb⟩;refine ⟨_,rfl,?_⟩;have n0_:=a0_ (Kd.R_below (by (with_reducible repeat (first | apply Kd.R_alloc | apply Kd.R_drewN | apply Kd.R_drew));exact (Kd.R_mono (Kd.R_far (p:=⟨gb32,2,none⟩) (Kd.R_far (p:=⟨gb32,1,none⟩) (Kd.R_far (p:=⟨gb32,0,none⟩) (Kd.R_types HO6.out BK32.out (by decide)) (fun _ hk=>hk.2) (.int .i64 t28)) (fun _ hk=>hk.2) (.int .i64 t29)) (fun _ hk=>hk.2) (.int .i64 t30)) (fun _ h_=>h_.1))) hb);have n1_:=a0_ (Kd.R_below (by (with_reducible repeat (first | apply Kd.R_alloc | apply Kd.R_drewN | apply Kd.R_drew));exact (Kd.R_mono (Kd.R_far (p:=⟨gb32,2,none⟩) (Kd.R_far (p:=⟨gb32,1,none⟩) (Kd.R_far (p:=⟨gb32,0,none⟩) (Kd.R_mono HO9.out (fun k_ hk=>(⟨hk,hk.2⟩ : _ ∧ k_ ≠ gb32))) (fun _ hk=>hk.2) (.int .i64 t28)) (fun _ hk=>hk.2) (.int .i64 t29)) (fun _ hk=>hk.2) (.int .i64 t30)) (fun _ h_=>h_.1))) hb);have n2_:=a0_ (Kd.R_below (by (with_reducible repeat (first | apply Kd.R_alloc | apply Kd.R_drewN | apply Kd.R_drew));exact (Kd.R_mono (Kd.R_far (p:=⟨gb32,2,none⟩) (Kd.R_far (p:=⟨gb32,1,none⟩) (Kd.R_far (p:=⟨gb32,0,none⟩) (Kd.R_mono HO12.out (fun k_ hk=>(⟨hk,hk.2⟩ : _ ∧ k_ ≠ gb32))) (fun _ hk=>hk.2) (.int .i64 t28)) (fun _ hk=>hk.2) (.int .i64 t29)) (fun _ hk=>hk.2) (.int .i64 t30)) (fun _ h_=>h_.1))) hb);have n3_:=a0_ (Kd.R_below (by (with_reducible repeat (first | apply Kd.R_alloc | apply Kd.R_drewN | apply Kd.R_drew));exact (Kd.R_mono (Kd.R_far (p:=⟨gb32,2,none⟩) (Kd.R_far (p:=⟨gb32,1,none⟩) (Kd.R_far (p:=⟨gb32,0,none⟩) (Kd.R_types HO20.out BK32.out (by decide)) (fun _ hk=>hk.2) (.int .i64 t28)) (fun _ hk=>hk.2) (.int .i64 t29)) (fun _ hk=>hk.2) (.int .i64 t30)) (fun _ h_=>h_.1))) hb);have n4_:=a0_ (Kd.R_below (by (with_reducible repeat (first | apply Kd.R_alloc | apply Kd.R_drewN | apply Kd.R_drew));exact (Kd.R_mono (Kd.R_far (p:=⟨gb32,2,none⟩) (Kd.R_far (p:=⟨gb32,1,none⟩) (Kd.R_far (p:=⟨gb32,0,none⟩) (Kd.R_mono HO24.out (fun k_ hk=>(⟨hk,hk.2⟩ : _ ∧ k_ ≠ gb32))) (fun _ hk=>hk.2) (.int .i64 t28)) (fun _ hk=>hk.2) (.int .i64 t29)) (fun _ hk=>hk.2) (.int .i64 t30)) (fun _ h_=>h_.1))) hb);have n5_:=a0_ (Kd.R_below (by (with_reducible repeat (first | apply Kd.R_alloc | apply Kd.R_drewN | apply Kd.R_drew));exact (Kd.R_mono (Kd.R_far (p:=⟨gb32,2,none⟩) (Kd.R_far (p:=⟨gb32,1,none⟩) (Kd.R_far (p:=⟨gb32,0,none⟩) (Kd.R_mono HO27.out (fun k_ hk=>(⟨hk,hk.2⟩ : _ ∧ k_ ≠ gb32))) (fun _ hk=>hk.2) (.int .i64 t28)) (fun _ hk=>hk.2) (.int .i64 t29)) (fun _ hk=>hk.2) (.int .i64 t30)) (fun _ h_=>h_.1))) hb);have n6_:=a0_ (blk_below (g:=gb1) (o:=.cells #[.slice A0_0 l0_0.length c0_0] 24 (0,0)) (by (with_reducible repeat (first | refine blk_drewN ?_ _ | refine blk_drew ?_ | refine blk_alloc ?_ _));refine blk_far ?_ NB1_32.out _;(with_reducible repeat (first | refine blk_drewN ?_ _ | refine blk_drew ?_ | refine blk_alloc ?_ _));refine blk_far ?_ NB1_32.out _;(with_reducible repeat (first | refine blk_drewN ?_ _ | refine blk_drew ?_ | refine blk_alloc ?_ _));refine blk_far ?_ NB1_32.out _;(with_reducible repeat (first | refine blk_drewN ?_ _ | refine blk_drew ?_ | refine blk_alloc ?_ _));exact BK1.out) hb);have n7_:=a0_ (blk_below (g:=gb17) (o:=.cells #[.int .i64 t13,.int .i64 t14,.int .i64 t15] 38 (0,0)) (by (with_reducible repeat (first | refine blk_drewN ?_ _ | refine blk_drew ?_ | refine blk_alloc ?_ _));refine blk_far ?_ NB17_32.out _;(with_reducible repeat (first | refine blk_drewN ?_ _ | refine blk_drew ?_ | refine blk_alloc ?_ _));refine blk_far ?_ NB17_32.out _;(with_reducible repeat (first | refine blk_drewN ?_ _ | refine blk_drew ?_ | refine blk_alloc ?_ _));refine blk_far ?_ NB17_32.out _;(with_reducible repeat (first | refine blk_drewN ?_ _ | refine blk_drew ?_ | refine blk_alloc ?_ _));exact BK17.out) hb);have n8_:=a0_ (blk_below (g:=gb21) (o:=.cells #[.slice Ao35 t18.length co35] 35 (0,0)) (by (with_reducible repeat (first | refine blk_drewN ?_ _ | refine blk_drew ?_ | refine blk_alloc ?_ _));refine blk_far ?_ NB21_32.out _;(with_reducible repeat (first | refine blk_drewN ?_ _ | refine blk_drew ?_ | refine blk_alloc ?_ _));refine blk_far ?_ NB21_32.out _;(with_reducible repeat (first | refine blk_drewN ?_ _ | refine blk_drew ?_ | refine blk_alloc ?_ _));refine blk_far ?_ NB21_32.out _;(with_reducible repeat (first | refine blk_drewN ?_ _ | refine blk_drew ?_ | refine blk_alloc ?_ _));exact BK21.out) hb);have n9_:=a0_ (blk_below (g:=gb32) (o:=.cells #[.int .i64 t28,.int .i64 t29,.int .i64 t30] 38 (0,0)) (by (with_reducible repeat (first | refine blk_drewN ?_ _ | refine blk_drew ?_ | refine blk_alloc ?_ _));refine blk_put (cs:=#[.int .i64 t28,.int .i64 t29,.int .i64 0]) ?_ 2 _ rfl;(with_reducible repeat (first | refine blk_drewN ?_ _ | refine blk_drew ?_ | refine blk_alloc ?_ _));refine blk_put (cs:=#[.int .i64 t28,.int .i64 0,.int .i64 0]) ?_ 1 _ rfl;(with_reducible repeat (first | refine blk_drewN ?_ _ | refine blk_drew ?_ | refine blk_alloc ?_ _));refine blk_put (cs:=#[.int .i64 0,.int .i64 0,.int .i64 0]) ?_ 0 _ rfl;(with_reducible repeat (first | refine blk_drewN ?_ _ | refine blk_drew ?_ | refine blk_alloc ?_ _));exact BK32.out) hb);have n10_:=a0_ (below_step hb_ hb);clear HO6 HO9;clear HO12 HO20;clear HO24 HO27;clear BK1 BK17;clear BK21 BK32 HB;have HO6:=n0_;have HO9:=n1_;have HO12:=n2_;have HO20:=n3_;have HO24:=n4_;have HO27:=n5_;have BK1:=n6_;have BK17:=n7_;have BK21:=n8_;have BK32:=n9_;have HB:=n10_;clear n0_ n1_ n2_ n3_ n4_ n5_ n6_ n7_ n8_ n9_ n10_;(try clear hb);(try clear hb2);(try clear hk);(try clear hi)))
     go_meet
     case rel=>exact ⟨_,(true),(by first | rfl | (simp;done) | (simp [*];done)),H',⟨by first | omega | exact Nat.le_refl _⟩,⟨by (with_reducible repeat (first | apply Kd.R_alloc | apply Kd.R_drewN | apply Kd.R_drew));exact Kd.R_mono HO12.out (fun _ hk=>⟨hk.1.1.2,⟨hk.1.2,⟨hk.1.1.1.2,hk.2⟩⟩⟩)⟩,⟨by (with_reducible repeat (first | apply Kd.R_alloc | apply Kd.R_drewN | apply Kd.R_drew));exact Kd.R_mono HO24.out (fun _ hk=>⟨hk.1.1.1.2,⟨hk.1.2,⟨hk.1.1.2,hk.2⟩⟩⟩)⟩,⟨by (with_reducible repeat (first | apply Kd.R_alloc | apply Kd.R_drewN | apply Kd.R_drew));exact Kd.R_mono HO27.out (fun _ hk=>⟨hk.1.1.1.2,⟨hk.1.1.2,⟨hk.1.2,hk.2⟩⟩⟩)⟩,⟨by (with_reducible repeat (first | apply Kd.R_alloc | apply Kd.R_drewN | apply Kd.R_drew));exact Kd.R_mono HO20.out (fun _ hk=>trivial)⟩,⟨by (with_reducible repeat (first | refine blk_drewN ?_ _ | refine blk_drew ?_ | refine blk_alloc ?_ _));exact BK1.out⟩,⟨by (with_reducible repeat (first | refine blk_drewN ?_ _ | refine blk_drew ?_ | refine blk_alloc ?_ _));exact BK17.out⟩,⟨by (with_reducible repeat (first | refine blk_drewN ?_ _ | refine blk_drew ?_ | refine blk_alloc ?_ _));exact BK21.out⟩,⟨by (with_reducible repeat (first | refine blk_drewN ?_ _ | refine blk_drew ?_ | refine blk_alloc ?_ _));exact BK32.out⟩,⟨hb_⟩⟩
   case rest =>
    clear HC19
    try clear c1
    try clear c2
    try clear p2
    try clear c3
    try clear c4
    try clear c4b0
    try clear c5
    try clear c6
    try clear c7
    try clear c8
    try clear c9
    try clear c9b0
    try clear c10
    try clear c11
    try clear c14
    try clear c19
    try clear c20
    try clear c30
    try clear c36
    try clear c37
    try clear c44
    try clear c45
    try clear c46
    try clear c49
    try clear c51
    try clear c55
    try clear c56
    try clear c57
    try clear c59
    try clear c60
    try clear c66
    try clear c67
    try clear c68
    try clear c70
    try clear c71
    try clear hcz11_0
    try clear hcz21_0
    try clear hcz23_0
    try clear hcz31_0
    try clear hcz31_1
    try clear hcz31_2
    try clear hcz32_0
    try clear hcz38_0
    try clear hcz40_0
    try clear hcz47_0
    try clear hcz47_1
    try clear hcz47_2
    try clear hcz58_0
    try clear hcz58_1
    try clear hcz58_2
    try clear hcz61_0
    try clear hcz61_1
    try clear hcz61_2
    try clear hcz69_0
    try clear hcz69_1
    try clear hcz69_2
    try clear hcz6_0
    try clear hcz72_0
    try clear hcz72_1
    try clear hcz72_2
    try clear hfz11_0
    try clear hfz21_0
    try clear hfz23_0
    try clear hfz31_0
    try clear hfz31_1
    try clear hfz31_2
    try clear hfz32_0
    try clear hfz38_0
    try clear hfz40_0
    try clear hfz47_0
    try clear hfz47_1
    try clear hfz47_2
    try clear hfz58_0
    try clear hfz58_1
    try clear hfz58_2
    try clear hfz61_0
    try clear hfz61_1
    try clear hfz61_2
    try clear hfz69_0
    try clear hfz69_1
    try clear hfz69_2
    try clear hfz6_0
    try clear hfz72_0
    try clear hfz72_1
    try clear hfz72_2
    obtain ⟨kq,x64_18,rfl,HA,HJ18,HO_6,HO_10,HO_11,HO_22000,BK1,BK17,BK21,BK32,HB⟩:=hcut
    cases kq with
    | zero=>exact absurd HA.out (by simp [laws_FnExactPopExit.j0])
    | succ kj18 =>
     have H:=HA.out
     clear HA
     simp only [laws_FnExactPopExit.j0] at H
     by_cases c77 : x64_18 = true
     ·subst c77
      have H1 : (some false) = some r:=by rw [if_pos rfl] at H;exact H
      clear H
      have H:=H1
      clear H1
      obtain rfl:=Option.some.inj H
      go_wp2
      go_ret
      exact ⟨by first | rfl | (simp [errW_none,errW_some] <;> rfl) | (simp [*,errW_none,errW_some] <;> rfl),hb_⟩
     ·replace c77:=Bool.eq_false_iff.mpr c77
      subst c77
      have H1 : ((laws_toTree.f kj18 l0_0).bind fun t35=>((laws_eqTree.f kj18 t18 t35).bind fun t38=>(if t38 = true then ((laws_toExitS.f kj18 l1).bind fun t39=>((laws_eqExitS.f kj18 t22 t39).bind fun t42=>(if t42 = true then ((laws_markTree.f kj18 t18 1).bind fun bt43=>((laws_markExitS.f kj18 t22 bt43.1).bind fun bt45=>(if bt45.1 < 0 then (laws_FnExactPopExit.j1 kj18 l1 t10 t16 t25 true l0_0 t13 t14 t15) else ((laws_eqExitS.f kj18 t25 t10).bind fun t47=>(if t47 = true then ((laws_eqExit.f t28 t29 t30 t13 t14 t15).bind fun t48=>(if t48 = true then (laws_FnExactPopExit.j1 kj18 l1 t10 t16 t25 (t31 != t16) l0_0 t13 t14 t15) else (laws_FnExactPopExit.j1 kj18 l1 t10 t16 t25 true l0_0 t13 t14 t15))) else (laws_FnExactPopExit.j1 kj18 l1 t10 t16 t25 true l0_0 t13 t14 t15)))))) else (some false)))) else (some false)))) = some r:=by rw [if_neg (show ¬ (false = true) by decide)] at H;exact H
      clear H
      have H:=H1
      clear H1
      replace H:=Option.bind_eq_some_iff.mp H
      obtain ⟨t35,A780,H⟩:=H
      replace H : ((laws_eqTree.f kj18 t18 t35).bind fun t38=>(if t38 = true then ((laws_toExitS.f kj18 l1).bind fun t39=>((laws_eqExitS.f kj18 t22 t39).bind fun t42=>(if t42 = true then ((laws_markTree.f kj18 t18 1).bind fun bt43=>((laws_markExitS.f kj18 t22 bt43.1).bind fun bt45=>(if bt45.1 < 0 then (laws_FnExactPopExit.j1 kj18 l1 t10 t16 t25 true l0_0 t13 t14 t15) else ((laws_eqExitS.f kj18 t25 t10).bind fun t47=>(if t47 = true then ((laws_eqExit.f t28 t29 t30 t13 t14 t15).bind fun t48=>(if t48 = true then (laws_FnExactPopExit.j1 kj18 l1 t10 t16 t25 (t31 != t16) l0_0 t13 t14 t15) else (laws_FnExactPopExit.j1 kj18 l1 t10 t16 t25 true l0_0 t13 t14 t15))) else (laws_FnExactPopExit.j1 kj18 l1 t10 t16 t25 true l0_0 t13 t14 t15)))))) else (some false)))) else (some false))) = some r:=H
      have A78:=a0_ A780
      clear A780
      replace H:=Option.bind_eq_some_iff.mp H
      obtain ⟨t38,A790,H⟩:=H
      replace H : (if t38 = true then ((laws_toExitS.f kj18 l1).bind fun t39=>((laws_eqExitS.f kj18 t22 t39).bind fun t42=>(if t42 = true then ((laws_markTree.f kj18 t18 1).bind fun bt43=>((laws_markExitS.f kj18 t22 bt43.1).bind fun bt45=>(if bt45.1 < 0 then (laws_FnExactPopExit.j1 kj18 l1 t10 t16 t25 true l0_0 t13 t14 t15) else ((laws_eqExitS.f kj18 t25 t10).bind fun t47=>(if t47 = true then ((laws_eqExit.f t28 t29 t30 t13 t14 t15).bind fun t48=>(if t48 = true then (laws_FnExactPopExit.j1 kj18 l1 t10 t16 t25 (t31 != t16) l0_0 t13 t14 t15) else (laws_FnExactPopExit.j1 kj18 l1 t10 t16 t25 true l0_0 t13 t14 t15))) else (laws_FnExactPopExit.j1 kj18 l1 t10 t16 t25 true l0_0 t13 t14 t15)))))) else (some false)))) else (some false)) = some r:=H
      have A79:=a0_ A790
      clear A790
      by_cases c80 : t38 = true
      ·subst c80
       have H1 : ((laws_toExitS.f kj18 l1).bind fun t39=>((laws_eqExitS.f kj18 t22 t39).bind fun t42=>(if t42 = true then ((laws_markTree.f kj18 t18 1).bind fun bt43=>((laws_markExitS.f kj18 t22 bt43.1).bind fun bt45=>(if bt45.1 < 0 then (laws_FnExactPopExit.j1 kj18 l1 t10 t16 t25 true l0_0 t13 t14 t15) else ((laws_eqExitS.f kj18 t25 t10).bind fun t47=>(if t47 = true then ((laws_eqExit.f t28 t29 t30 t13 t14 t15).bind fun t48=>(if t48 = true then (laws_FnExactPopExit.j1 kj18 l1 t10 t16 t25 (t31 != t16) l0_0 t13 t14 t15) else (laws_FnExactPopExit.j1 kj18 l1 t10 t16 t25 true l0_0 t13 t14 t15))) else (laws_FnExactPopExit.j1 kj18 l1 t10 t16 t25 true l0_0 t13 t14 t15)))))) else (some false)))) = some r:=by rw [if_pos rfl] at H;exact H
       clear H
       have H:=H1
       clear H1
       replace H:=Option.bind_eq_some_iff.mp H
       obtain ⟨t39,A810,H⟩:=H
       replace H : ((laws_eqExitS.f kj18 t22 t39).bind fun t42=>(if t42 = true then ((laws_markTree.f kj18 t18 1).bind fun bt43=>((laws_markExitS.f kj18 t22 bt43.1).bind fun bt45=>(if bt45.1 < 0 then (laws_FnExactPopExit.j1 kj18 l1 t10 t16 t25 true l0_0 t13 t14 t15) else ((laws_eqExitS.f kj18 t25 t10).bind fun t47=>(if t47 = true then ((laws_eqExit.f t28 t29 t30 t13 t14 t15).bind fun t48=>(if t48 = true then (laws_FnExactPopExit.j1 kj18 l1 t10 t16 t25 (t31 != t16) l0_0 t13 t14 t15) else (laws_FnExactPopExit.j1 kj18 l1 t10 t16 t25 true l0_0 t13 t14 t15))) else (laws_FnExactPopExit.j1 kj18 l1 t10 t16 t25 true l0_0 t13 t14 t15)))))) else (some false))) = some r:=H
       have A81:=a0_ A810
       clear A810
       replace H:=Option.bind_eq_some_iff.mp H
       obtain ⟨t42,A820,H⟩:=H
       replace H : (if t42 = true then ((laws_markTree.f kj18 t18 1).bind fun bt43=>((laws_markExitS.f kj18 t22 bt43.1).bind fun bt45=>(if bt45.1 < 0 then (laws_FnExactPopExit.j1 kj18 l1 t10 t16 t25 true l0_0 t13 t14 t15) else ((laws_eqExitS.f kj18 t25 t10).bind fun t47=>(if t47 = true then ((laws_eqExit.f t28 t29 t30 t13 t14 t15).bind fun t48=>(if t48 = true then (laws_FnExactPopExit.j1 kj18 l1 t10 t16 t25 (t31 != t16) l0_0 t13 t14 t15) else (laws_FnExactPopExit.j1 kj18 l1 t10 t16 t25 true l0_0 t13 t14 t15))) else (laws_FnExactPopExit.j1 kj18 l1 t10 t16 t25 true l0_0 t13 t14 t15)))))) else (some false)) = some r:=H
       have A82:=a0_ A820
       clear A820
       by_cases c83 : t42 = true
       ·subst c83
        have H1 : ((laws_markTree.f kj18 t18 1).bind fun bt43=>((laws_markExitS.f kj18 t22 bt43.1).bind fun bt45=>(if bt45.1 < 0 then (laws_FnExactPopExit.j1 kj18 l1 t10 t16 t25 true l0_0 t13 t14 t15) else ((laws_eqExitS.f kj18 t25 t10).bind fun t47=>(if t47 = true then ((laws_eqExit.f t28 t29 t30 t13 t14 t15).bind fun t48=>(if t48 = true then (laws_FnExactPopExit.j1 kj18 l1 t10 t16 t25 (t31 != t16) l0_0 t13 t14 t15) else (laws_FnExactPopExit.j1 kj18 l1 t10 t16 t25 true l0_0 t13 t14 t15))) else (laws_FnExactPopExit.j1 kj18 l1 t10 t16 t25 true l0_0 t13 t14 t15)))))) = some r:=by rw [if_pos rfl] at H;exact H
        clear H
        have H:=H1
        clear H1
        replace H:=Option.bind_eq_some_iff.mp H
        obtain ⟨⟨t43,t44⟩,A840,H⟩:=H
        replace H : ((laws_markExitS.f kj18 t22 t43).bind fun bt45=>(if bt45.1 < 0 then (laws_FnExactPopExit.j1 kj18 l1 t10 t16 t25 true l0_0 t13 t14 t15) else ((laws_eqExitS.f kj18 t25 t10).bind fun t47=>(if t47 = true then ((laws_eqExit.f t28 t29 t30 t13 t14 t15).bind fun t48=>(if t48 = true then (laws_FnExactPopExit.j1 kj18 l1 t10 t16 t25 (t31 != t16) l0_0 t13 t14 t15) else (laws_FnExactPopExit.j1 kj18 l1 t10 t16 t25 true l0_0 t13 t14 t15))) else (laws_FnExactPopExit.j1 kj18 l1 t10 t16 t25 true l0_0 t13 t14 t15))))) = some r:=H
        have A84:=a0_ A840
        clear A840
        replace H:=Option.bind_eq_some_iff.mp H
        obtain ⟨⟨t45,t46⟩,A850,H⟩:=H
        replace H : (if t45 < 0 then (laws_FnExactPopExit.j1 kj18 l1 t10 t16 t25 true l0_0 t13 t14 t15) else ((laws_eqExitS.f kj18 t25 t10).bind fun t47=>(if t47 = true then ((laws_eqExit.f t28 t29 t30 t13 t14 t15).bind fun t48=>(if t48 = true then (laws_FnExactPopExit.j1 kj18 l1 t10 t16 t25 (t31 != t16) l0_0 t13 t14 t15) else (laws_FnExactPopExit.j1 kj18 l1 t10 t16 t25 true l0_0 t13 t14 t15))) else (laws_FnExactPopExit.j1 kj18 l1 t10 t16 t25 true l0_0 t13 t14 t15)))) = some r:=H
        have A85:=a0_ A850
        clear A850
        have HC86:=a0_ H
        clear H
        try go_wp2
        have n0_:=a0_ (Kd.R_drew HO_6.out)
        have n1_:=a0_ (Kd.R_drew HO_10.out)
        have n2_:=a0_ (Kd.R_drew HO_11.out)
        have n3_:=a0_ (Kd.R_drew HO_22000.out)
        have n4_:=a0_ (blk_drew BK1.out)
        have n5_:=a0_ (blk_drew BK17.out)
        have n6_:=a0_ (blk_drew BK21.out)
        have n7_:=a0_ (blk_drew BK32.out)
        have n8_:=a0_ (below_drew1 HB.out)
        clear HO_6
        clear HO_10
        clear HO_11
        clear HO_22000
        clear BK1
        clear BK17
        clear BK21
        clear BK32
        clear HB
        have HO_6:=n0_
        have HO_10:=n1_
        have HO_11:=n2_
        have HO_22000:=n3_
        have BK1:=n4_
        have BK17:=n5_
        have BK21:=n6_
        have BK32:=n7_
        have HB:=n8_
        clear n0_ n1_ n2_ n3_ n4_ n5_ n6_ n7_ n8_
        refine start_ (n:=5) (S:=fun w'=>w'.cell? ⟨gb21,0,none⟩ = some (.slice Ao35 t18.length co35) ∧ w'.cell? ⟨gb1,0,none⟩ = some (.slice A0_0 l0_0.length c0_0)) (ds:=[]) #[false,false,false,false,false] (by kernel_rfl) rfl rfl ⟨(blk_cell BK21.out 0).trans rfl,(blk_cell BK1.out 0).trans rfl⟩ (fun hHeld=>?_)
        generalize wc.drew = w87 at HO_6 HO_10 HO_11 HO_22000 BK1 BK17 BK21 BK32 HB hHeld ⊢
        refine take_ (i:=0) (N:=some 65) (v:=?_) (a':=?_) #[true,false,false,false,false] rfl rfl (by kernel_rfl) (fun _ _ _ h=>h) (Or.inl ⟨by rfl,?_⟩) hHeld ?_ ?_
        rotate_left
        ·rintro w' ⟨s0,s1⟩
         go_simp
         with_reducible rfl
        rotate_left
        ·simp only [Act.put,List.setIfInBounds_toArray,List.set_cons_zero,List.set_cons_succ,i64_w,i32_w]
         rfl
        refine take_ (i:=1) (N:=some 66) (v:=?_) (a':=?_) #[true,true,false,false,false] rfl rfl (by kernel_rfl) (fun _ _ _ h=>h) (Or.inl ⟨by rfl,?_⟩) hHeld ?_ ?_
        rotate_left
        ·rintro w' ⟨s0,s1⟩
         go_simp
         with_reducible rfl
        rotate_left
        ·simp only [Act.put,List.setIfInBounds_toArray,List.set_cons_zero,List.set_cons_succ,i64_w,i32_w]
         rfl
        refine one_ (i:=2) (N:=some 67) #[true,true,true,false,false] rfl rfl (by kernel_rfl) (by decide) (fun K hK=>?_)
        refine goes_ Try.func10 (by kernel_rfl) rfl #[.agg #[.slice A0_0 l0_0.length c0_0]] (by rfl) rfl rfl lm_ ?_
        with_reducible refine (laws_toTree.calls kj18 _ _ l0_0 t35 _ ?side1 ?side2 A78.out).mono ?_
        (case side1=>exact cc_ (Kd.C_below HR0_0.out HB.out))
        (case side2=>exact HC0_0.out)
        rintro e w88 ⟨v36,rfl,ho0,hb⟩
        refine ⟨_,rfl,?_⟩
        have n0_:=a0_ (Kd.R_below (rr_ HO_6.out) hb)
        have n1_:=a0_ (Kd.R_below (rr_ HO_10.out) hb)
        have n2_:=a0_ (Kd.R_below (rr_ HO_11.out) hb)
        have n3_:=a0_ (Kd.R_elder' (rr_ HO_22000.out) (Kd.R_base ho0) hb)
        have n4_:=a0_ (Kd.R_lower (Kd.R_new' ho0 (Kd.R_lt (rr_ HO_22000.out))) (below_size hb_))
        have n5_:=a0_ (blk_below (g:=gb1) (o:=.cells #[.slice A0_0 l0_0.length c0_0] 24 (0,0)) (bb_ BK1.out) hb)
        have n6_:=a0_ (blk_below (g:=gb17) (o:=.cells #[.int .i64 t13,.int .i64 t14,.int .i64 t15] 38 (0,0)) (bb_ BK17.out) hb)
        have n7_:=a0_ (blk_below (g:=gb21) (o:=.cells #[.slice Ao35 t18.length co35] 35 (0,0)) (bb_ BK21.out) hb)
        have n8_:=a0_ (blk_below (g:=gb32) (o:=.cells #[.int .i64 t28,.int .i64 t29,.int .i64 t30] 38 (0,0)) (bb_ BK32.out) hb)
        have n9_:=a0_ (below_step hb_ hb)
        clear HO_6
        clear HO_10
        clear HO_11
        clear HO_22000
        clear BK1
        clear BK17
        clear BK21
        clear BK32
        clear HB
        have HO_6:=n0_
        have HO_10:=n1_
        have HO_11:=n2_
        have HO_22000:=n3_
        have HO37:=n4_
        have BK1:=n5_
        have BK17:=n6_
        have BK21:=n7_
        have BK32:=n8_
        have HB:=n9_
        clear n0_ n1_ n2_ n3_ n4_ n5_ n6_ n7_ n8_ n9_
        (try clear hb)
        (try clear hb2)
        (try clear hk)
        (try clear hi)
        (try clear ho0)
        obtain ⟨Ao89,co89,eo89⟩:=Kd.R_slice HO37.out
        (first | subst eo89 | (injection eo89 with f1_ f2_ f3_;have f4_:=f1_.symm;have f5_:=f3_.symm;clear f1_ f2_ f3_;subst f4_;subst f5_))
        refine hK.out _ _ ⟨(blk_cell BK21.out 0).trans rfl,(blk_cell BK1.out 0).trans rfl⟩ (fun hHeld=>?_)
        clear hK K
        refine norm_ (a':=?_) ?_ ?_
        rotate_left
        ·show Act.put _ (some 67) _ = _
         simp only [Act.put,List.setIfInBounds_toArray,List.set_cons_zero,List.set_cons_succ,i64_w,i32_w]
         rfl
        refine one_ (i:=3) (N:=some 68) #[true,true,true,true,false] rfl rfl (by kernel_rfl) (by decide) (fun K hK=>?_)
        refine goes_ Try.func15 (by kernel_rfl) rfl #[.agg #[.slice Ao35 t18.length co35],.agg #[.slice Ao89 t35.length co89]] (by rfl) rfl rfl lm_ ?_
        with_reducible refine (laws_eqTree.calls kj18 _ _ t18 _ _ t35 true _ ?side1 ?side2 ?side3 ?side4 A79.out).mono ?_
        (case side1=>repeat (first | exact (Kd.R_reads' HO_22000.out).2.2 | (with_reducible refine Kd.C_alloc ?_ _) | (with_reducible refine Kd.C_drewN ?_ _) | (with_reducible refine Kd.C_drew ?_)))
        (case side2=>exact (Kd.R_reads' HO_22000.out).2.1)
        (case side3=>repeat (first | exact (Kd.R_reads' HO37.out).2.2 | (with_reducible refine Kd.C_alloc ?_ _) | (with_reducible refine Kd.C_drewN ?_ _) | (with_reducible refine Kd.C_drew ?_)))
        (case side4=>exact (Kd.R_reads' HO37.out).2.1)
        rintro e w90 ⟨rfl,hb⟩
        refine ⟨_,rfl,?_⟩
        have n0_:=a0_ (Kd.R_below (rr_ HO_6.out) hb)
        have n1_:=a0_ (Kd.R_below (rr_ HO_10.out) hb)
        have n2_:=a0_ (Kd.R_below (rr_ HO_11.out) hb)
        have n3_:=a0_ (Kd.R_below (rr_ HO_22000.out) hb)
        have n4_:=a0_ (Kd.R_below (rr_ HO37.out) hb)
        have n5_:=a0_ (blk_below (g:=gb1) (o:=.cells #[.slice A0_0 l0_0.length c0_0] 24 (0,0)) (bb_ BK1.out) hb)
        have n6_:=a0_ (blk_below (g:=gb17) (o:=.cells #[.int .i64 t13,.int .i64 t14,.int .i64 t15] 38 (0,0)) (bb_ BK17.out) hb)
        have n7_:=a0_ (blk_below (g:=gb21) (o:=.cells #[.slice Ao35 t18.length co35] 35 (0,0)) (bb_ BK21.out) hb)
        have n8_:=a0_ (blk_below (g:=gb32) (o:=.cells #[.int .i64 t28,.int .i64 t29,.int .i64 t30] 38 (0,0)) (bb_ BK32.out) hb)
        have n9_:=a0_ (below_step hb_ hb)
        clear HO_6
        clear HO_10
        clear HO_11
        clear HO_22000
        clear HO37
        clear BK1
        clear BK17
        clear BK21
        clear BK32
        clear HB
        have HO_6:=n0_
        have HO_10:=n1_
        have HO_11:=n2_
        have HO_22000:=n3_
        have HO37:=n4_
        have BK1:=n5_
        have BK17:=n6_
        have BK21:=n7_
        have BK32:=n8_
        have HB:=n9_
        clear n0_ n1_ n2_ n3_ n4_ n5_ n6_ n7_ n8_ n9_
        (try clear hb)
        (try clear hb2)
        (try clear hk)
        (try clear hi)
        refine hK.out _ _ ⟨(blk_cell BK21.out 0).trans rfl,(blk_cell BK1.out 0).trans rfl⟩ (fun hHeld=>?_)
        clear hK K
        refine norm_ (a':=?_) ?_ ?_
        rotate_left
        ·show Act.put _ (some 68) _ = _
         simp only [Act.put,List.setIfInBounds_toArray,List.set_cons_zero,List.set_cons_succ,i64_w,i32_w]
         rfl
        refine pure_ (i:=4) (N:=some 69) (v:=?_) (a':=?_) #[true,true,true,true,true] rfl rfl (by kernel_rfl) (fun _ _ _ h=>h) (Or.inl ⟨by rfl,?_⟩) ?_ ?_
        rotate_left
        ·intro w'
         go_simp
         with_reducible rfl
        rotate_left
        ·simp only [Act.put,List.setIfInBounds_toArray,List.set_cons_zero,List.set_cons_succ,i64_w,i32_w]
         rfl
        refine done_ (by kernel_rfl) ?_
        go_upto_region 21 with (first | ((with_reducible refine gate_callee (f:=11) rfl ?_);refine goesL_ (some 72) rfl rfl Try.func11 (by kernel_rfl) rfl #[.slice A1 l1.length c1] rfl lm_ ?_;(with_reducible refine (laws_toExitS.calls kj18 _ _ l1 t39 _ ?side1 ?side2 A81.out).mono ?_);(case side1=>exact cc_ (Kd.C_below HR1.out HB.out));(case side2=>exact HC1.out);rintro e w91 ⟨v40,rfl,ho0,hb⟩;refine ⟨_,rfl,?_⟩;have n0_:=a0_ (Kd.R_elder' (rr_ HO_6.out) (Kd.R_base ho0) hb);have n1_:=a0_ (Kd.R_elder' (rr_ HO_10.out) (Kd.R_base ho0) hb);have n2_:=a0_ (Kd.R_elder' (rr_ HO_11.out) (Kd.R_base ho0) hb);have n3_:=a0_ (Kd.R_below (rr_ HO_22000.out) hb);have n4_:=a0_ (Kd.R_below (rr_ HO37.out) hb);have n5_:=a0_ (Kd.R_lower (Kd.R_newB (Kd.R_newB (Kd.R_new' (Kd.R_new' (Kd.R_new' ho0 (Kd.R_lt (rr_ HO_6.out))) (Kd.R_lt (rr_ HO_10.out))) (Kd.R_lt (rr_ HO_11.out))) (g:=gb17) (o:=.cells #[.int .i64 t13,.int .i64 t14,.int .i64 t15] 38 (0,0)) (bb_ BK17.out)) (g:=gb32) (o:=.cells #[.int .i64 t28,.int .i64 t29,.int .i64 t30] 38 (0,0)) (bb_ BK32.out)) (below_size hb_));have n6_:=a0_ (blk_below (g:=gb1) (o:=.cells #[.slice A0_0 l0_0.length c0_0] 24 (0,0)) (bb_ BK1.out) hb);have n7_:=a0_ (blk_below (g:=gb17) (o:=.cells #[.int .i64 t13,.int .i64 t14,.int .i64 t15] 38 (0,0)) (bb_ BK17.out) hb);have n8_:=a0_ (blk_below (g:=gb21) (o:=.cells #[.slice Ao35 t18.length co35] 35 (0,0)) (bb_ BK21.out) hb);have n9_:=a0_ (blk_below (g:=gb32) (o:=.cells #[.int .i64 t28,.int .i64 t29,.int .i64 t30] 38 (0,0)) (bb_ BK32.out) hb);have n10_:=a0_ (below_step hb_ hb);clear HO_6 HO_10;clear HO_11 HO_22000;clear HO37 BK1;clear BK17 BK21;clear BK32 HB;have HO_6:=n0_;have HO_10:=n1_;have HO_11:=n2_;have HO_22000:=n3_;have HO37:=n4_;have HO41:=n5_;have BK1:=n6_;have BK17:=n7_;have BK21:=n8_;have BK32:=n9_;have HB:=n10_;clear n0_ n1_ n2_ n3_ n4_ n5_ n6_ n7_ n8_ n9_ n10_;(try clear hb);(try clear hb2);(try clear hk);(try clear hi);(try clear ho0);obtain ⟨Ao92,co92,eo92⟩:=Kd.R_slice HO41.out;subst eo92) | ((with_reducible refine gate_callee (f:=14) rfl ?_);refine goesL_ (some 73) rfl rfl Try.func14 (by kernel_rfl) rfl #[.slice Ao41 t22.length co41,.slice Ao92 t39.length co92] rfl lm_ ?_;(with_reducible refine (laws_eqExitS.calls kj18 _ _ t22 _ _ t39 true _ ?side1 ?side2 ?side3 ?side4 A82.out).mono ?_);(case side1=>repeat (first | exact (Kd.R_reads' HO_10.out).2.2 | (with_reducible refine Kd.C_alloc ?_ _) | (with_reducible refine Kd.C_drewN ?_ _) | (with_reducible refine Kd.C_drew ?_)));(case side2=>exact (Kd.R_reads' HO_10.out).2.1);(case side3=>repeat (first | exact (Kd.R_reads' HO41.out).2.2 | (with_reducible refine Kd.C_alloc ?_ _) | (with_reducible refine Kd.C_drewN ?_ _) | (with_reducible refine Kd.C_drew ?_)));(case side4=>exact (Kd.R_reads' HO41.out).2.1);rintro e w93 ⟨rfl,hb⟩;refine ⟨_,rfl,?_⟩;have n0_:=a0_ (Kd.R_below (rr_ HO_6.out) hb);have n1_:=a0_ (Kd.R_below (rr_ HO_10.out) hb);have n2_:=a0_ (Kd.R_below (rr_ HO_11.out) hb);have n3_:=a0_ (Kd.R_below (rr_ HO_22000.out) hb);have n4_:=a0_ (Kd.R_below (rr_ HO37.out) hb);have n5_:=a0_ (Kd.R_below (rr_ HO41.out) hb);have n6_:=a0_ (blk_below (g:=gb1) (o:=.cells #[.slice A0_0 l0_0.length c0_0] 24 (0,0)) (bb_ BK1.out) hb);have n7_:=a0_ (blk_below (g:=gb17) (o:=.cells #[.int .i64 t13,.int .i64 t14,.int .i64 t15] 38 (0,0)) (bb_ BK17.out) hb);have n8_:=a0_ (blk_below (g:=gb21) (o:=.cells #[.slice Ao35 t18.length co35] 35 (0,0)) (bb_ BK21.out) hb);have n9_:=a0_ (blk_below (g:=gb32) (o:=.cells #[.int .i64 t28,.int .i64 t29,.int .i64 t30] 38 (0,0)) (bb_ BK32.out) hb);have n10_:=a0_ (below_step hb_ hb);clear HO_6 HO_10;clear HO_11 HO_22000;clear HO37 HO41;clear BK1 BK17;clear BK21 BK32 HB;have HO_6:=n0_;have HO_10:=n1_;have HO_11:=n2_;have HO_22000:=n3_;have HO37:=n4_;have HO41:=n5_;have BK1:=n6_;have BK17:=n7_;have BK21:=n8_;have BK32:=n9_;have HB:=n10_;clear n0_ n1_ n2_ n3_ n4_ n5_ n6_ n7_ n8_ n9_ n10_;(try clear hb);(try clear hb2);(try clear hk);(try clear hi);have hnb94:=NB21_1.out;have hnc94:=NB1_21.out;have hnb95:=NB21_17.out;have hnc95:=NB17_21.out;have hnb96:=NB21_32.out;have hnc96:=NB32_21.out;have hcz97_0 : w93.cell? ⟨gb21,0,none⟩ = some (.slice Ao35 t18.length co35):=(blk_cell BK21.out 0).trans rfl;have hfz97_0:=blk_frozen BK21.out 0) | ((with_reducible refine gate_callee (f:=16) rfl ?_);refine goesL_ (some 77) rfl rfl Try.func16 (by kernel_rfl) rfl #[.agg #[.slice Ao35 t18.length co35],.int .i64 1] rfl lm_ ?_;(with_reducible refine (laws_markTree.calls kj18 (fun k_=>some k_ = (.slice Ao35 t18.length co35 : Value).ownBlock) (.slice Ao35 t18.length co35) t18 1 t43 t44 w _ ?side1 ?side2 A84.out).mono ?_);(case side1=>repeat (first | (with_reducible first | exact HB.out | apply below_alloc | apply pw_below_drewN | apply below_drew1 | refine below_set ?_ GE1.out | refine below_set ?_ GE17.out | refine below_set ?_ GE21.out | refine below_set ?_ GE32.out) | exact HB.out));(case side2=>exact Kd.R_tight rfl HO_22000.out);rintro e w98 ⟨rfl,hy0,hb,hkp⟩;refine ⟨_,rfl,?_⟩;have n0_:=a0_ (Kd.R_mono (ok':=fun k_=>some k_ ≠ (.slice Ao41 t22.length co41 : Value).ownBlock ∧ some k_ ≠ (v26 : Value).ownBlock ∧ some k_ ≠ (.slice Ao92 t39.length co92 : Value).ownBlock ∧ k_ ≠ gb17 ∧ k_ ≠ gb32) (Kd.R_keptB ((Kd.R_apart' HO_6.out (Kd.R_typed HO_22000.out) (by decide))) hkp (fun k_ hk_ hs_=>(hk_.2) hs_)) (fun k_ hk_=>⟨hk_.1.1.1.1,hk_.1.1.1.2.1,hk_.1.1.2,hk_.1.1.1.2.2.1,hk_.1.1.1.2.2.2⟩));have n1_:=a0_ (Kd.R_mono (ok':=fun k_=>some k_ ≠ (v11 : Value).ownBlock ∧ some k_ ≠ (v26 : Value).ownBlock ∧ some k_ ≠ (.slice Ao92 t39.length co92 : Value).ownBlock ∧ k_ ≠ gb17 ∧ k_ ≠ gb32) (Kd.R_keptB ((Kd.R_apart' HO_10.out (Kd.R_typed HO_22000.out) (by decide))) hkp (fun k_ hk_ hs_=>(hk_.2) hs_)) (fun k_ hk_=>⟨hk_.1.1.1.1,hk_.1.1.1.2.1,hk_.1.1.2,hk_.1.1.1.2.2.1,hk_.1.1.1.2.2.2⟩));have n2_:=a0_ (Kd.R_mono (ok':=fun k_=>some k_ ≠ (v11 : Value).ownBlock ∧ some k_ ≠ (.slice Ao41 t22.length co41 : Value).ownBlock ∧ some k_ ≠ (.slice Ao92 t39.length co92 : Value).ownBlock ∧ k_ ≠ gb17 ∧ k_ ≠ gb32) (Kd.R_keptB ((Kd.R_apart' HO_11.out (Kd.R_typed HO_22000.out) (by decide))) hkp (fun k_ hk_ hs_=>(hk_.2) hs_)) (fun k_ hk_=>⟨hk_.1.1.1.1,hk_.1.1.1.2.1,hk_.1.1.2,hk_.1.1.1.2.2.1,hk_.1.1.1.2.2.2⟩));have n3_:=a0_ (Kd.R_reok rfl hy0 (fun k_ e_=>HO_22000.out.1 k_ e_));have n4_:=a0_ (blk_kept (bb_ BK1.out) hkp (fun hs_=>(fun e_=>(Kd.R_ne HO_22000.out BK1.out (by decide)) e_) hs_));have n5_:=a0_ (blk_kept (bb_ BK17.out) hkp (fun hs_=>(fun e_=>(Kd.R_ne HO_22000.out BK17.out (by decide)) e_) hs_));have n6_:=a0_ (blk_kept (bb_ BK21.out) hkp (fun hs_=>(fun e_=>(Kd.R_ne HO_22000.out BK21.out (by decide)) e_) hs_));have n7_:=a0_ (blk_kept (bb_ BK32.out) hkp (fun hs_=>(fun e_=>(Kd.R_ne HO_22000.out BK32.out (by decide)) e_) hs_));have n8_:=a0_ (Kd.R_mono (ok':=fun k_=>some k_ ≠ (.slice Ao35 t18.length co35 : Value).ownBlock) (Kd.R_keptB (HO37.out) hkp (fun k_ hk_ hs_=>(hk_.2) hs_)) (fun k_ hk_=>hk_.1.2));have n9_:=a0_ (Kd.R_mono (ok':=fun k_=>some k_ ≠ (v11 : Value).ownBlock ∧ some k_ ≠ (.slice Ao41 t22.length co41 : Value).ownBlock ∧ some k_ ≠ (v26 : Value).ownBlock ∧ k_ ≠ gb17 ∧ k_ ≠ gb32) (Kd.R_keptB ((Kd.R_apart' HO41.out (Kd.R_typed HO_22000.out) (by decide))) hkp (fun k_ hk_ hs_=>(hk_.2) hs_)) (fun k_ hk_=>⟨hk_.1.1.1.1.1.1.2,hk_.1.1.1.1.1.2,hk_.1.1.1.1.2,hk_.1.1.1.2,hk_.1.1.2⟩));have n10_:=a0_ (hb);clear HO_6 HO_10;clear HO_11 HO_22000;clear BK1 BK17;clear BK21 BK32;clear HO37 HO41 HB;have HO_6:=n0_;have HO_10:=n1_;have HO_11:=n2_;have HO_22000:=n3_;have BK1:=n4_;have BK17:=n5_;have BK21:=n6_;have BK32:=n7_;have HO37:=n8_;have HO41:=n9_;have HB:=n10_;clear n0_ n1_ n2_ n3_ n4_ n5_ n6_ n7_ n8_ n9_ n10_;(try clear hb);(try clear hkp);(try clear hy0)) | ((with_reducible refine gate_callee (f:=17) rfl ?_);refine goesL_ (some 80) rfl rfl Try.func17 (by kernel_rfl) rfl #[.slice Ao41 t22.length co41,.int .i64 t43] rfl lm_ ?_;(with_reducible refine (laws_markExitS.calls kj18 (fun k_=>some k_ = (.slice Ao41 t22.length co41 : Value).ownBlock) (.slice Ao41 t22.length co41) t22 t43 t45 t46 w _ ?side1 ?side2 A85.out).mono ?_);(case side1=>repeat (first | (with_reducible first | exact HB.out | apply below_alloc | apply pw_below_drewN | apply below_drew1 | refine below_set ?_ GE1.out | refine below_set ?_ GE17.out | refine below_set ?_ GE21.out | refine below_set ?_ GE32.out) | exact HB.out));(case side2=>exact Kd.R_tight rfl HO_10.out);rintro e w99 ⟨rfl,hy0,hb,hkp⟩;refine ⟨_,rfl,?_⟩;have n0_:=a0_ (Kd.R_mono (ok':=fun k_=>some k_ ≠ (.slice Ao41 t22.length co41 : Value).ownBlock ∧ some k_ ≠ (v26 : Value).ownBlock ∧ some k_ ≠ (.slice Ao92 t39.length co92 : Value).ownBlock ∧ k_ ≠ gb17 ∧ k_ ≠ gb32) (Kd.R_keptB (HO_6.out) hkp (fun k_ hk_ hs_=>(hk_.1) hs_)) (fun k_ hk_=>⟨hk_.1.1,hk_.1.2.1,hk_.1.2.2.1,hk_.1.2.2.2.1,hk_.1.2.2.2.2⟩));have n1_:=a0_ (Kd.R_reok rfl hy0 (fun k_ e_=>HO_10.out.1 k_ e_));have n2_:=a0_ (Kd.R_mono (ok':=fun k_=>some k_ ≠ (v11 : Value).ownBlock ∧ some k_ ≠ (.slice Ao41 t22.length co41 : Value).ownBlock ∧ some k_ ≠ (.slice Ao92 t39.length co92 : Value).ownBlock ∧ k_ ≠ gb17 ∧ k_ ≠ gb32) (Kd.R_keptB (HO_11.out) hkp (fun k_ hk_ hs_=>(hk_.2.1) hs_)) (fun k_ hk_=>⟨hk_.1.1,hk_.1.2.1,hk_.1.2.2.1,hk_.1.2.2.2.1,hk_.1.2.2.2.2⟩));have n3_:=a0_ (Kd.R_mono (ok':=fun k_=>some k_ ≠ (.slice Ao89 t35.length co89 : Value).ownBlock) (Kd.R_keptB ((Kd.R_apart' HO_22000.out (Kd.R_typed HO_10.out) (by decide))) hkp (fun k_ hk_ hs_=>(hk_.2) hs_)) (fun k_ hk_=>hk_.1.1.2));have n4_:=a0_ (blk_kept (bb_ BK1.out) hkp (fun hs_=>(fun e_=>(Kd.R_ne HO_10.out BK1.out (by decide)) e_) hs_));have n5_:=a0_ (blk_kept (bb_ BK17.out) hkp (fun hs_=>(fun e_=>(Kd.R_away HO_10.out (fun _ hk=>hk.2.2.2.1)) e_) hs_));have n6_:=a0_ (blk_kept (bb_ BK21.out) hkp (fun hs_=>(fun e_=>(Kd.R_ne HO_10.out BK21.out (by decide)) e_) hs_));have n7_:=a0_ (blk_kept (bb_ BK32.out) hkp (fun hs_=>(fun e_=>(Kd.R_away HO_10.out (fun _ hk=>hk.2.2.2.2)) e_) hs_));have n8_:=a0_ (Kd.R_mono (ok':=fun k_=>some k_ ≠ (.slice Ao35 t18.length co35 : Value).ownBlock) (Kd.R_keptB ((Kd.R_apart' HO37.out (Kd.R_typed HO_10.out) (by decide))) hkp (fun k_ hk_ hs_=>(hk_.2) hs_)) (fun k_ hk_=>hk_.1.1));have n9_:=a0_ (Kd.R_mono (ok':=fun k_=>some k_ ≠ (v11 : Value).ownBlock ∧ some k_ ≠ (.slice Ao41 t22.length co41 : Value).ownBlock ∧ some k_ ≠ (v26 : Value).ownBlock ∧ k_ ≠ gb17 ∧ k_ ≠ gb32) (Kd.R_keptB (HO41.out) hkp (fun k_ hk_ hs_=>(hk_.2.1) hs_)) (fun k_ hk_=>⟨hk_.1.1,hk_.1.2.1,hk_.1.2.2.1,hk_.1.2.2.2.1,hk_.1.2.2.2.2⟩));have n10_:=a0_ (hb);clear HO_6 HO_10;clear HO_11 HO_22000;clear BK1 BK17;clear BK21 BK32;clear HO37 HO41 HB;have HO_6:=n0_;have HO_10:=n1_;have HO_11:=n2_;have HO_22000:=n3_;have BK1:=n4_;have BK17:=n5_;have BK21:=n6_;have BK32:=n7_;have HO37:=n8_;have HO41:=n9_;have HB:=n10_;clear n0_ n1_ n2_ n3_ n4_ n5_ n6_ n7_ n8_ n9_ n10_;(try clear hb);(try clear hkp);(try clear hy0)))
        (try simp only [Act.put,List.setIfInBounds_toArray,List.set_cons_zero,List.set_cons_succ])
        go_cut [99] (fun v99 wc=>∃ (kq : Nat) (x99_85 : Bool),v99 = .bool x99_85 ∧ Aside0 (laws_FnExactPopExit.j1 kq l1 t10 t16 t25 x99_85 l0_0 t13 t14 t15 = some r) ∧ Aside0 (kq ≤ kj18) ∧ Aside0 (Kd.R k38 38 wc w.heap.size (fun k_=>some k_ ≠ (v26 : Value).ownBlock ∧ k_ ≠ gb17 ∧ k_ ≠ gb32) v11 t10) ∧ Aside0 (Kd.R k38 38 wc w.heap.size (fun k_=>some k_ ≠ (v11 : Value).ownBlock ∧ k_ ≠ gb17 ∧ k_ ≠ gb32) v26 t25) ∧ Aside0 (Kd.R k76 76 wc w.heap.size (fun _=>True) (.slice Ao35 t18.length co35) t44) ∧ Aside0 (wc.heap[gb1]? = some (.cells #[(.slice A0_0 l0_0.length c0_0)] 24 (0,0))) ∧ Aside0 (wc.heap[gb17]? = some (.cells #[.int .i64 t13,.int .i64 t14,.int .i64 t15] 38 (0,0))) ∧ Aside0 (wc.heap[gb21]? = some (.cells #[(.slice Ao35 t18.length co35)] 35 (0,0))) ∧ Aside0 (wc.heap[gb32]? = some (.cells #[.int .i64 t28,.int .i64 t29,.int .i64 t30] 38 (0,0))) ∧ Aside0 (Below w.heap.size w wc))
        case first =>
         have H:=HC86.out
         clear HC86
         by_cases c100 : t45 < 0
         ·rw [if_pos c100] at H
          have c100b0 : decide (t45 < 0) = true:=decide_eq_true c100
          clear c100
          (first | rw [c100b0] | (simp only [i64_w,i32_w];rw [c100b0]) | skip)
          have H':=a0_ H
          clear H
          go_wp2
          go_meet
          case rel=>exact ⟨_,(true),(by first | rfl | (simp;done) | (simp [*];done)),H',⟨by have:=HJ18.out;first | omega | exact Nat.le_refl _⟩,⟨by (with_reducible repeat (first | apply Kd.R_alloc | apply Kd.R_drewN | apply Kd.R_drew));exact Kd.R_mono HO_6.out (fun _ hk=>⟨hk.2.1,⟨hk.2.2.2.1,hk.2.2.2.2⟩⟩)⟩,⟨by (with_reducible repeat (first | apply Kd.R_alloc | apply Kd.R_drewN | apply Kd.R_drew));exact Kd.R_mono HO_11.out (fun _ hk=>⟨hk.1,⟨hk.2.2.2.1,hk.2.2.2.2⟩⟩)⟩,⟨by (with_reducible repeat (first | apply Kd.R_alloc | apply Kd.R_drewN | apply Kd.R_drew));exact Kd.R_mono HO_22000.out (fun _ hk=>trivial)⟩,⟨by (with_reducible repeat (first | refine blk_drewN ?_ _ | refine blk_drew ?_ | refine blk_alloc ?_ _));exact BK1.out⟩,⟨by (with_reducible repeat (first | refine blk_drewN ?_ _ | refine blk_drew ?_ | refine blk_alloc ?_ _));exact BK17.out⟩,⟨by (with_reducible repeat (first | refine blk_drewN ?_ _ | refine blk_drew ?_ | refine blk_alloc ?_ _));exact BK21.out⟩,⟨by (with_reducible repeat (first | refine blk_drewN ?_ _ | refine blk_drew ?_ | refine blk_alloc ?_ _));exact BK32.out⟩,⟨hb_⟩⟩
         ·rw [if_neg c100] at H
          have c100b0 : decide (t45 < 0) = false:=decide_eq_false c100
          clear c100
          (first | rw [c100b0] | (simp only [i64_w,i32_w];rw [c100b0]) | skip)
          replace H:=Option.bind_eq_some_iff.mp H
          obtain ⟨t47,A1010,H⟩:=H
          replace H : (if t47 = true then ((laws_eqExit.f t28 t29 t30 t13 t14 t15).bind fun t48=>(if t48 = true then (laws_FnExactPopExit.j1 kj18 l1 t10 t16 t25 (t31 != t16) l0_0 t13 t14 t15) else (laws_FnExactPopExit.j1 kj18 l1 t10 t16 t25 true l0_0 t13 t14 t15))) else (laws_FnExactPopExit.j1 kj18 l1 t10 t16 t25 true l0_0 t13 t14 t15)) = some r:=H
          have A101:=a0_ A1010
          clear A1010
          by_cases c102 : t47 = true
          ·subst c102
           have H1 : ((laws_eqExit.f t28 t29 t30 t13 t14 t15).bind fun t48=>(if t48 = true then (laws_FnExactPopExit.j1 kj18 l1 t10 t16 t25 (t31 != t16) l0_0 t13 t14 t15) else (laws_FnExactPopExit.j1 kj18 l1 t10 t16 t25 true l0_0 t13 t14 t15))) = some r:=by rw [if_pos rfl] at H;exact H
           clear H
           have H:=H1
           clear H1
           replace H:=Option.bind_eq_some_iff.mp H
           obtain ⟨t48,A1030,H⟩:=H
           replace H : (if t48 = true then (laws_FnExactPopExit.j1 kj18 l1 t10 t16 t25 (t31 != t16) l0_0 t13 t14 t15) else (laws_FnExactPopExit.j1 kj18 l1 t10 t16 t25 true l0_0 t13 t14 t15)) = some r:=H
           have A103:=a0_ A1030
           clear A1030
           by_cases c104 : t48 = true
           ·subst c104
            have H1 : (laws_FnExactPopExit.j1 kj18 l1 t10 t16 t25 (t31 != t16) l0_0 t13 t14 t15) = some r:=by rw [if_pos rfl] at H;exact H
            clear H
            have H:=H1
            clear H1
            have H':=a0_ H
            clear H
            obtain ⟨Ao105,co105,eo105⟩:=Kd.R_slice HO_11.out
            subst eo105
            obtain ⟨Ao106,co106,eo106⟩:=Kd.R_slice HO_6.out
            subst eo106
            go_wp2_with (first | (go_at_call 14;(with_reducible refine (laws_eqExitS.calls kj18 _ _ t25 _ _ t10 true _ ?side1 ?side2 ?side3 ?side4 A101.out).mono ?_);(case side1=>repeat (first | exact (Kd.R_reads' HO_11.out).2.2 | (with_reducible refine Kd.C_alloc ?_ _) | (with_reducible refine Kd.C_drewN ?_ _) | (with_reducible refine Kd.C_drew ?_)));(case side2=>exact (Kd.R_reads' HO_11.out).2.1);(case side3=>repeat (first | exact (Kd.R_reads' HO_6.out).2.2 | (with_reducible refine Kd.C_alloc ?_ _) | (with_reducible refine Kd.C_drewN ?_ _) | (with_reducible refine Kd.C_drew ?_)));(case side4=>exact (Kd.R_reads' HO_6.out).2.1);rintro e w107 ⟨rfl,hb⟩;have n0_:=a0_ (Kd.R_below (rr_ HO_6.out) hb);have n1_:=a0_ (Kd.R_below (rr_ HO_10.out) hb);have n2_:=a0_ (Kd.R_below (rr_ HO_11.out) hb);have n3_:=a0_ (Kd.R_below (rr_ HO_22000.out) hb);have n4_:=a0_ (Kd.R_below (rr_ HO37.out) hb);have n5_:=a0_ (Kd.R_below (rr_ HO41.out) hb);have n6_:=a0_ (blk_below (g:=gb1) (o:=.cells #[.slice A0_0 l0_0.length c0_0] 24 (0,0)) (bb_ BK1.out) hb);have n7_:=a0_ (blk_below (g:=gb17) (o:=.cells #[.int .i64 t13,.int .i64 t14,.int .i64 t15] 38 (0,0)) (bb_ BK17.out) hb);have n8_:=a0_ (blk_below (g:=gb21) (o:=.cells #[.slice Ao35 t18.length co35] 35 (0,0)) (bb_ BK21.out) hb);have n9_:=a0_ (blk_below (g:=gb32) (o:=.cells #[.int .i64 t28,.int .i64 t29,.int .i64 t30] 38 (0,0)) (bb_ BK32.out) hb);have n10_:=a0_ (below_step hb_ hb);clear HO_6 HO_10;clear HO_11 HO_22000;clear HO37 HO41;clear BK1 BK17;clear BK21 BK32 HB;have HO_6:=n0_;have HO_10:=n1_;have HO_11:=n2_;have HO_22000:=n3_;have HO37:=n4_;have HO41:=n5_;have BK1:=n6_;have BK17:=n7_;have BK21:=n8_;have BK32:=n9_;have HB:=n10_;clear n0_ n1_ n2_ n3_ n4_ n5_ n6_ n7_ n8_ n9_ n10_;(try clear hb);(try clear hb2);(try clear hk);(try clear hi);have hnb108:=NB32_1.out;have hnc108:=NB1_32.out;have hnb109:=NB32_17.out;have hnc109:=NB17_32.out;have hnb110:=NB32_21.out;have hnc110:=NB21_32.out;have hcz111_0 : w107.cell? ⟨gb32,0,none⟩ = some (.int .i64 t28):=(blk_cell BK32.out 0).trans rfl;have hcz111_1 : w107.cell? ⟨gb32,1,none⟩ = some (.int .i64 t29):=(blk_cell BK32.out 1).trans rfl;have hcz111_2 : w107.cell? ⟨gb32,2,none⟩ = some (.int .i64 t30):=(blk_cell BK32.out 2).trans rfl;have hfz111_0:=blk_frozen BK32.out 0;have hfz111_1:=blk_frozen BK32.out 1;have hfz111_2:=blk_frozen BK32.out 2;have hnb112:=NB17_1.out;have hnc112:=NB1_17.out;have hnb113:=NB17_21.out;have hnc113:=NB21_17.out;have hcz114_0 : w107.cell? ⟨gb17,0,none⟩ = some (.int .i64 t13):=(blk_cell BK17.out 0).trans rfl;have hcz114_1 : w107.cell? ⟨gb17,1,none⟩ = some (.int .i64 t14):=(blk_cell BK17.out 1).trans rfl;have hcz114_2 : w107.cell? ⟨gb17,2,none⟩ = some (.int .i64 t15):=(blk_cell BK17.out 2).trans rfl;have hfz114_0:=blk_frozen BK17.out 0;have hfz114_1:=blk_frozen BK17.out 1;have hfz114_2:=blk_frozen BK17.out 2) | (go_at_call 21;(with_reducible refine (laws_eqExit.calls t28 t29 t30 t13 t14 t15 true _ A103.out).mono ?_);rintro e w115 ⟨rfl,hb⟩;have n0_:=a0_ (Kd.R_below (rr_ HO_6.out) hb);have n1_:=a0_ (Kd.R_below (rr_ HO_10.out) hb);have n2_:=a0_ (Kd.R_below (rr_ HO_11.out) hb);have n3_:=a0_ (Kd.R_below (rr_ HO_22000.out) hb);have n4_:=a0_ (Kd.R_below (rr_ HO37.out) hb);have n5_:=a0_ (Kd.R_below (rr_ HO41.out) hb);have n6_:=a0_ (blk_below (g:=gb1) (o:=.cells #[.slice A0_0 l0_0.length c0_0] 24 (0,0)) (bb_ BK1.out) hb);have n7_:=a0_ (blk_below (g:=gb17) (o:=.cells #[.int .i64 t13,.int .i64 t14,.int .i64 t15] 38 (0,0)) (bb_ BK17.out) hb);have n8_:=a0_ (blk_below (g:=gb21) (o:=.cells #[.slice Ao35 t18.length co35] 35 (0,0)) (bb_ BK21.out) hb);have n9_:=a0_ (blk_below (g:=gb32) (o:=.cells #[.int .i64 t28,.int .i64 t29,.int .i64 t30] 38 (0,0)) (bb_ BK32.out) hb);have n10_:=a0_ (below_step hb_ hb);clear HO_6 HO_10;clear HO_11 HO_22000;clear HO37 HO41;clear BK1 BK17;clear BK21 BK32 HB;have HO_6:=n0_;have HO_10:=n1_;have HO_11:=n2_;have HO_22000:=n3_;have HO37:=n4_;have HO41:=n5_;have BK1:=n6_;have BK17:=n7_;have BK21:=n8_;have BK32:=n9_;have HB:=n10_;clear n0_ n1_ n2_ n3_ n4_ n5_ n6_ n7_ n8_ n9_ n10_;(try clear hb);(try clear hb2);(try clear hk);(try clear hi)))
            go_meet
            case rel=>exact ⟨_,((t31 != t16)),(by first | rfl | (simp;done) | (simp [*];done)),H',⟨by have:=HJ18.out;first | omega | exact Nat.le_refl _⟩,⟨by (with_reducible repeat (first | apply Kd.R_alloc | apply Kd.R_drewN | apply Kd.R_drew));exact Kd.R_mono HO_6.out (fun _ hk=>⟨hk.2.1,⟨hk.2.2.2.1,hk.2.2.2.2⟩⟩)⟩,⟨by (with_reducible repeat (first | apply Kd.R_alloc | apply Kd.R_drewN | apply Kd.R_drew));exact Kd.R_mono HO_11.out (fun _ hk=>⟨hk.1,⟨hk.2.2.2.1,hk.2.2.2.2⟩⟩)⟩,⟨by (with_reducible repeat (first | apply Kd.R_alloc | apply Kd.R_drewN | apply Kd.R_drew));exact Kd.R_mono HO_22000.out (fun _ hk=>trivial)⟩,⟨by (with_reducible repeat (first | refine blk_drewN ?_ _ | refine blk_drew ?_ | refine blk_alloc ?_ _));exact BK1.out⟩,⟨by (with_reducible repeat (first | refine blk_drewN ?_ _ | refine blk_drew ?_ | refine blk_alloc ?_ _));exact BK17.out⟩,⟨by (with_reducible repeat (first | refine blk_drewN ?_ _ | refine blk_drew ?_ | refine blk_alloc ?_ _));exact BK21.out⟩,⟨by (with_reducible repeat (first | refine blk_drewN ?_ _ | refine blk_drew ?_ | refine blk_alloc ?_ _));exact BK32.out⟩,⟨hb_⟩⟩
           ·replace c104:=Bool.eq_false_iff.mpr c104
            subst c104
            have H1 : (laws_FnExactPopExit.j1 kj18 l1 t10 t16 t25 true l0_0 t13 t14 t15) = some r:=by rw [if_neg (show ¬ (false = true) by decide)] at H;exact H
            clear H
            have H:=H1
            clear H1
            have H':=a0_ H
            clear H
            obtain ⟨Ao116,co116,eo116⟩:=Kd.R_slice HO_11.out
            subst eo116
            obtain ⟨Ao117,co117,eo117⟩:=Kd.R_slice HO_6.out
            subst eo117
            go_wp2_with (first | (go_at_call 14;(with_reducible refine (laws_eqExitS.calls kj18 _ _ t25 _ _ t10 true _ ?side1 ?side2 ?side3 ?side4 A101.out).mono ?_);(case side1=>repeat (first | exact (Kd.R_reads' HO_11.out).2.2 | (with_reducible refine Kd.C_alloc ?_ _) | (with_reducible refine Kd.C_drewN ?_ _) | (with_reducible refine Kd.C_drew ?_)));(case side2=>exact (Kd.R_reads' HO_11.out).2.1);(case side3=>repeat (first | exact (Kd.R_reads' HO_6.out).2.2 | (with_reducible refine Kd.C_alloc ?_ _) | (with_reducible refine Kd.C_drewN ?_ _) | (with_reducible refine Kd.C_drew ?_)));(case side4=>exact (Kd.R_reads' HO_6.out).2.1);rintro e w118 ⟨rfl,hb⟩;have n0_:=a0_ (Kd.R_below (rr_ HO_6.out) hb);have n1_:=a0_ (Kd.R_below (rr_ HO_10.out) hb);have n2_:=a0_ (Kd.R_below (rr_ HO_11.out) hb);have n3_:=a0_ (Kd.R_below (rr_ HO_22000.out) hb);have n4_:=a0_ (Kd.R_below (rr_ HO37.out) hb);have n5_:=a0_ (Kd.R_below (rr_ HO41.out) hb);have n6_:=a0_ (blk_below (g:=gb1) (o:=.cells #[.slice A0_0 l0_0.length c0_0] 24 (0,0)) (bb_ BK1.out) hb);have n7_:=a0_ (blk_below (g:=gb17) (o:=.cells #[.int .i64 t13,.int .i64 t14,.int .i64 t15] 38 (0,0)) (bb_ BK17.out) hb);have n8_:=a0_ (blk_below (g:=gb21) (o:=.cells #[.slice Ao35 t18.length co35] 35 (0,0)) (bb_ BK21.out) hb);have n9_:=a0_ (blk_below (g:=gb32) (o:=.cells #[.int .i64 t28,.int .i64 t29,.int .i64 t30] 38 (0,0)) (bb_ BK32.out) hb);have n10_:=a0_ (below_step hb_ hb);clear HO_6 HO_10;clear HO_11 HO_22000;clear HO37 HO41;clear BK1 BK17;clear BK21 BK32 HB;have HO_6:=n0_;have HO_10:=n1_;have HO_11:=n2_;have HO_22000:=n3_;have HO37:=n4_;have HO41:=n5_;have BK1:=n6_;have BK17:=n7_;have BK21:=n8_;have BK32:=n9_;have HB:=n10_;clear n0_ n1_ n2_ n3_ n4_ n5_ n6_ n7_ n8_ n9_ n10_;(try clear hb);(try clear hb2);(try clear hk);(try clear hi);have hnb119:=NB32_1.out;have hnc119:=NB1_32.out;have hnb120:=NB32_17.out;have hnc120:=NB17_32.out;have hnb121:=NB32_21.out;have hnc121:=NB21_32.out;have hcz122_0 : w118.cell? ⟨gb32,0,none⟩ = some (.int .i64 t28):=(blk_cell BK32.out 0).trans rfl;have hcz122_1 : w118.cell? ⟨gb32,1,none⟩ = some (.int .i64 t29):=(blk_cell BK32.out 1).trans rfl;have hcz122_2 : w118.cell? ⟨gb32,2,none⟩ = some (.int .i64 t30):=(blk_cell BK32.out 2).trans rfl;have hfz122_0:=blk_frozen BK32.out 0;have hfz122_1:=blk_frozen BK32.out 1;have hfz122_2:=blk_frozen BK32.out 2;have hnb123:=NB17_1.out;have hnc123:=NB1_17.out;have hnb124:=NB17_21.out;have hnc124:=NB21_17.out;have hcz125_0 : w118.cell? ⟨gb17,0,none⟩ = some (.int .i64 t13):=(blk_cell BK17.out 0).trans rfl;have hcz125_1 : w118.cell? ⟨gb17,1,none⟩ = some (.int .i64 t14):=(blk_cell BK17.out 1).trans rfl;have hcz125_2 : w118.cell? ⟨gb17,2,none⟩ = some (.int .i64 t15):=(blk_cell BK17.out 2).trans rfl;have hfz125_0:=blk_frozen BK17.out 0;have hfz125_1:=blk_frozen BK17.out 1;have hfz125_2:=blk_frozen BK17.out 2) | (go_at_call 21;(with_reducible refine (laws_eqExit.calls t28 t29 t30 t13 t14 t15 false _ A103.out).mono ?_);rintro e w126 ⟨rfl,hb⟩;have n0_:=a0_ (Kd.R_below (rr_ HO_6.out) hb);have n1_:=a0_ (Kd.R_below (rr_ HO_10.out) hb);have n2_:=a0_ (Kd.R_below (rr_ HO_11.out) hb);have n3_:=a0_ (Kd.R_below (rr_ HO_22000.out) hb);have n4_:=a0_ (Kd.R_below (rr_ HO37.out) hb);have n5_:=a0_ (Kd.R_below (rr_ HO41.out) hb);have n6_:=a0_ (blk_below (g:=gb1) (o:=.cells #[.slice A0_0 l0_0.length c0_0] 24 (0,0)) (bb_ BK1.out) hb);have n7_:=a0_ (blk_below (g:=gb17) (o:=.cells #[.int .i64 t13,.int .i64 t14,.int .i64 t15] 38 (0,0)) (bb_ BK17.out) hb);have n8_:=a0_ (blk_below (g:=gb21) (o:=.cells #[.slice Ao35 t18.length co35] 35 (0,0)) (bb_ BK21.out) hb);have n9_:=a0_ (blk_below (g:=gb32) (o:=.cells #[.int .i64 t28,.int .i64 t29,.int .i64 t30] 38 (0,0)) (bb_ BK32.out) hb);have n10_:=a0_ (below_step hb_ hb);clear HO_6 HO_10;clear HO_11 HO_22000;clear HO37 HO41;clear BK1 BK17;clear BK21 BK32 HB;have HO_6:=n0_;have HO_10:=n1_;have HO_11:=n2_;have HO_22000:=n3_;have HO37:=n4_;have HO41:=n5_;have BK1:=n6_;have BK17:=n7_;have BK21:=n8_;have BK32:=n9_;have HB:=n10_;clear n0_ n1_ n2_ n3_ n4_ n5_ n6_ n7_ n8_ n9_ n10_;(try clear hb);(try clear hb2);(try clear hk);(try clear hi)))
            go_meet
            case rel=>exact ⟨_,(true),(by first | rfl | (simp;done) | (simp [*];done)),H',⟨by have:=HJ18.out;first | omega | exact Nat.le_refl _⟩,⟨by (with_reducible repeat (first | apply Kd.R_alloc | apply Kd.R_drewN | apply Kd.R_drew));exact Kd.R_mono HO_6.out (fun _ hk=>⟨hk.2.1,⟨hk.2.2.2.1,hk.2.2.2.2⟩⟩)⟩,⟨by (with_reducible repeat (first | apply Kd.R_alloc | apply Kd.R_drewN | apply Kd.R_drew));exact Kd.R_mono HO_11.out (fun _ hk=>⟨hk.1,⟨hk.2.2.2.1,hk.2.2.2.2⟩⟩)⟩,⟨by (with_reducible repeat (first | apply Kd.R_alloc | apply Kd.R_drewN | apply Kd.R_drew));exact Kd.R_mono HO_22000.out (fun _ hk=>trivial)⟩,⟨by (with_reducible repeat (first | refine blk_drewN ?_ _ | refine blk_drew ?_ | refine blk_alloc ?_ _));exact BK1.out⟩,⟨by (with_reducible repeat (first | refine blk_drewN ?_ _ | refine blk_drew ?_ | refine blk_alloc ?_ _));exact BK17.out⟩,⟨by (with_reducible repeat (first | refine blk_drewN ?_ _ | refine blk_drew ?_ | refine blk_alloc ?_ _));exact BK21.out⟩,⟨by (with_reducible repeat (first | refine blk_drewN ?_ _ | refine blk_drew ?_ | refine blk_alloc ?_ _));exact BK32.out⟩,⟨hb_⟩⟩
          ·replace c102:=Bool.eq_false_iff.mpr c102
           subst c102
           have H1 : (laws_FnExactPopExit.j1 kj18 l1 t10 t16 t25 true l0_0 t13 t14 t15) = some r:=by rw [if_neg (show ¬ (false = true) by decide)] at H;exact H
           clear H
           have H:=H1
           clear H1
           have H':=a0_ H
           clear H
           obtain ⟨Ao127,co127,eo127⟩:=Kd.R_slice HO_11.out
           subst eo127
           obtain ⟨Ao128,co128,eo128⟩:=Kd.R_slice HO_6.out
           subst eo128
           go_wp2_with (first | (go_at_call 14;(with_reducible refine (laws_eqExitS.calls kj18 _ _ t25 _ _ t10 false _ ?side1 ?side2 ?side3 ?side4 A101.out).mono ?_);(case side1=>repeat (first | exact (Kd.R_reads' HO_11.out).2.2 | (with_reducible refine Kd.C_alloc ?_ _) | (with_reducible refine Kd.C_drewN ?_ _) | (with_reducible refine Kd.C_drew ?_)));(case side2=>exact (Kd.R_reads' HO_11.out).2.1);(case side3=>repeat (first | exact (Kd.R_reads' HO_6.out).2.2 | (with_reducible refine Kd.C_alloc ?_ _) | (with_reducible refine Kd.C_drewN ?_ _) | (with_reducible refine Kd.C_drew ?_)));(case side4=>exact (Kd.R_reads' HO_6.out).2.1);rintro e w129 ⟨rfl,hb⟩;have n0_:=a0_ (Kd.R_below (rr_ HO_6.out) hb);have n1_:=a0_ (Kd.R_below (rr_ HO_10.out) hb);have n2_:=a0_ (Kd.R_below (rr_ HO_11.out) hb);have n3_:=a0_ (Kd.R_below (rr_ HO_22000.out) hb);have n4_:=a0_ (Kd.R_below (rr_ HO37.out) hb);have n5_:=a0_ (Kd.R_below (rr_ HO41.out) hb);have n6_:=a0_ (blk_below (g:=gb1) (o:=.cells #[.slice A0_0 l0_0.length c0_0] 24 (0,0)) (bb_ BK1.out) hb);have n7_:=a0_ (blk_below (g:=gb17) (o:=.cells #[.int .i64 t13,.int .i64 t14,.int .i64 t15] 38 (0,0)) (bb_ BK17.out) hb);have n8_:=a0_ (blk_below (g:=gb21) (o:=.cells #[.slice Ao35 t18.length co35] 35 (0,0)) (bb_ BK21.out) hb);have n9_:=a0_ (blk_below (g:=gb32) (o:=.cells #[.int .i64 t28,.int .i64 t29,.int .i64 t30] 38 (0,0)) (bb_ BK32.out) hb);have n10_:=a0_ (below_step hb_ hb);clear HO_6 HO_10;clear HO_11 HO_22000;clear HO37 HO41;clear BK1 BK17;clear BK21 BK32 HB;have HO_6:=n0_;have HO_10:=n1_;have HO_11:=n2_;have HO_22000:=n3_;have HO37:=n4_;have HO41:=n5_;have BK1:=n6_;have BK17:=n7_;have BK21:=n8_;have BK32:=n9_;have HB:=n10_;clear n0_ n1_ n2_ n3_ n4_ n5_ n6_ n7_ n8_ n9_ n10_;(try clear hb);(try clear hb2);(try clear hk);(try clear hi)))
           go_meet
           case rel=>exact ⟨_,(true),(by first | rfl | (simp;done) | (simp [*];done)),H',⟨by have:=HJ18.out;first | omega | exact Nat.le_refl _⟩,⟨by (with_reducible repeat (first | apply Kd.R_alloc | apply Kd.R_drewN | apply Kd.R_drew));exact Kd.R_mono HO_6.out (fun _ hk=>⟨hk.2.1,⟨hk.2.2.2.1,hk.2.2.2.2⟩⟩)⟩,⟨by (with_reducible repeat (first | apply Kd.R_alloc | apply Kd.R_drewN | apply Kd.R_drew));exact Kd.R_mono HO_11.out (fun _ hk=>⟨hk.1,⟨hk.2.2.2.1,hk.2.2.2.2⟩⟩)⟩,⟨by (with_reducible repeat (first | apply Kd.R_alloc | apply Kd.R_drewN | apply Kd.R_drew));exact Kd.R_mono HO_22000.out (fun _ hk=>trivial)⟩,⟨by (with_reducible repeat (first | refine blk_drewN ?_ _ | refine blk_drew ?_ | refine blk_alloc ?_ _));exact BK1.out⟩,⟨by (with_reducible repeat (first | refine blk_drewN ?_ _ | refine blk_drew ?_ | refine blk_alloc ?_ _));exact BK17.out⟩,⟨by (with_reducible repeat (first | refine blk_drewN ?_ _ | refine blk_drew ?_ | refine blk_alloc ?_ _));exact BK21.out⟩,⟨by (with_reducible repeat (first | refine blk_drewN ?_ _ | refine blk_drew ?_ | refine blk_alloc ?_ _));exact BK32.out⟩,⟨hb_⟩⟩
        case rest =>
         clear HC86
         try clear c1
         try clear c2
         try clear p2
         try clear c3
         try clear c4
         try clear c4b0
         try clear c5
         try clear c6
         try clear c7
         try clear c8
         try clear c9
         try clear c9b0
         try clear c10
         try clear c11
         try clear c12
         try clear c14
         try clear c15
         try clear c16
         try clear c17
         try clear c19
         try clear c20
         try clear c30
         try clear c36
         try clear c37
         try clear c44
         try clear c45
         try clear c46
         try clear c49
         try clear c51
         try clear c55
         try clear c56
         try clear c57
         try clear c59
         try clear c60
         try clear c66
         try clear c67
         try clear c68
         try clear c70
         try clear c71
         try clear c77
         try clear c80
         try clear c83
         try clear c94
         try clear c95
         try clear c96
         try clear c100
         try clear c100b0
         try clear c102
         try clear c104
         try clear c108
         try clear c109
         try clear c110
         try clear c112
         try clear c113
         try clear c119
         try clear c120
         try clear c121
         try clear c123
         try clear c124
         try clear hcz111_0
         try clear hcz111_1
         try clear hcz111_2
         try clear hcz114_0
         try clear hcz114_1
         try clear hcz114_2
         try clear hcz11_0
         try clear hcz122_0
         try clear hcz122_1
         try clear hcz122_2
         try clear hcz125_0
         try clear hcz125_1
         try clear hcz125_2
         try clear hcz21_0
         try clear hcz23_0
         try clear hcz31_0
         try clear hcz31_1
         try clear hcz31_2
         try clear hcz32_0
         try clear hcz38_0
         try clear hcz40_0
         try clear hcz47_0
         try clear hcz47_1
         try clear hcz47_2
         try clear hcz58_0
         try clear hcz58_1
         try clear hcz58_2
         try clear hcz61_0
         try clear hcz61_1
         try clear hcz61_2
         try clear hcz69_0
         try clear hcz69_1
         try clear hcz69_2
         try clear hcz6_0
         try clear hcz72_0
         try clear hcz72_1
         try clear hcz72_2
         try clear hcz97_0
         try clear hfz111_0
         try clear hfz111_1
         try clear hfz111_2
         try clear hfz114_0
         try clear hfz114_1
         try clear hfz114_2
         try clear hfz11_0
         try clear hfz122_0
         try clear hfz122_1
         try clear hfz122_2
         try clear hfz125_0
         try clear hfz125_1
         try clear hfz125_2
         try clear hfz21_0
         try clear hfz23_0
         try clear hfz31_0
         try clear hfz31_1
         try clear hfz31_2
         try clear hfz32_0
         try clear hfz38_0
         try clear hfz40_0
         try clear hfz47_0
         try clear hfz47_1
         try clear hfz47_2
         try clear hfz58_0
         try clear hfz58_1
         try clear hfz58_2
         try clear hfz61_0
         try clear hfz61_1
         try clear hfz61_2
         try clear hfz69_0
         try clear hfz69_1
         try clear hfz69_2
         try clear hfz6_0
         try clear hfz72_0
         try clear hfz72_1
         try clear hfz72_2
         try clear hfz97_0
         try clear p2
         obtain ⟨kq,x99_85,rfl,HA,HJ85,HO_6,HO_11,HO_22000,BK1,BK17,BK21,BK32,HB⟩:=hcut
         have hl22000_85:=(Kd.R_reads' HO_22000.out).1
         rw [hl22000_85] at HO_22000
         (try simp only [hl22000_85])
         (try simp only [hl22000_85] at BK1)
         (try simp only [hl22000_85] at BK17)
         (try simp only [hl22000_85] at BK21)
         (try simp only [hl22000_85] at BK32)
         (try simp only [hl22000_85] at HO_6)
         (try simp only [hl22000_85] at HO_11)
         cases kq with
         | zero=>exact absurd HA.out (by simp [laws_FnExactPopExit.j1])
         | succ kj85 =>
          have H:=HA.out
          clear HA
          simp only [laws_FnExactPopExit.j1] at H
          by_cases c130 : x99_85 = true
          ·subst c130
           have H1 : (some false) = some r:=by rw [if_pos rfl] at H;exact H
           clear H
           have H:=H1
           clear H1
           obtain rfl:=Option.some.inj H
           go_wp2
           go_ret
           exact ⟨by first | rfl | (simp [errW_none,errW_some] <;> rfl) | (simp [*,errW_none,errW_some] <;> rfl),hb_⟩
          ·replace c130:=Bool.eq_false_iff.mpr c130
           subst c130
           have H1 : ((laws_markExitS.f kj85 t25 1).bind fun bt49=>((laws_heldExitS.f kj85 bt49.2 1).bind fun t51=>(if t51 < 0 then (some false) else (if t51 = bt49.1 then ((laws_toTree.f kj85 l0_0).bind fun t52=>((laws_toExitS.f kj85 l1).bind fun t55=>((impl_PopExit.f kj85 t52 t55).bind fun bt58=>((laws_eqExitS.f kj85 bt58.1 t10).bind fun t66=>(if t66 = true then ((laws_eqExit.f bt58.2.1 bt58.2.2.1 bt58.2.2.2.1 t13 t14 t15).bind fun t67=>(if t67 = true then (laws_FnExactPopExit.j2 kj85 bt49.2 bt49.1 (bt58.2.2.2.2 != t16)) else (laws_FnExactPopExit.j2 kj85 bt49.2 bt49.1 true))) else (laws_FnExactPopExit.j2 kj85 bt49.2 bt49.1 true)))))) else (some false))))) = some r:=by rw [if_neg (show ¬ (false = true) by decide)] at H;exact H
           clear H
           have H:=H1
           clear H1
           replace H:=Option.bind_eq_some_iff.mp H
           obtain ⟨⟨t49,t50⟩,A1310,H⟩:=H
           replace H : ((laws_heldExitS.f kj85 t50 1).bind fun t51=>(if t51 < 0 then (some false) else (if t51 = t49 then ((laws_toTree.f kj85 l0_0).bind fun t52=>((laws_toExitS.f kj85 l1).bind fun t55=>((impl_PopExit.f kj85 t52 t55).bind fun bt58=>((laws_eqExitS.f kj85 bt58.1 t10).bind fun t66=>(if t66 = true then ((laws_eqExit.f bt58.2.1 bt58.2.2.1 bt58.2.2.2.1 t13 t14 t15).bind fun t67=>(if t67 = true then (laws_FnExactPopExit.j2 kj85 t50 t49 (bt58.2.2.2.2 != t16)) else (laws_FnExactPopExit.j2 kj85 t50 t49 true))) else (laws_FnExactPopExit.j2 kj85 t50 t49 true)))))) else (some false)))) = some r:=H
           have A131:=a0_ A1310
           clear A1310
           replace H:=Option.bind_eq_some_iff.mp H
           obtain ⟨t51,A1320,H⟩:=H
           replace H : (if t51 < 0 then (some false) else (if t51 = t49 then ((laws_toTree.f kj85 l0_0).bind fun t52=>((laws_toExitS.f kj85 l1).bind fun t55=>((impl_PopExit.f kj85 t52 t55).bind fun bt58=>((laws_eqExitS.f kj85 bt58.1 t10).bind fun t66=>(if t66 = true then ((laws_eqExit.f bt58.2.1 bt58.2.2.1 bt58.2.2.2.1 t13 t14 t15).bind fun t67=>(if t67 = true then (laws_FnExactPopExit.j2 kj85 t50 t49 (bt58.2.2.2.2 != t16)) else (laws_FnExactPopExit.j2 kj85 t50 t49 true))) else (laws_FnExactPopExit.j2 kj85 t50 t49 true)))))) else (some false))) = some r:=H
           have A132:=a0_ A1320
           clear A1320
           by_cases c133 : t51 < 0
           ·rw [if_pos c133] at H
            have c133b0 : decide (t51 < 0) = true:=decide_eq_true c133
            clear c133
            obtain rfl:=Option.some.inj H
            obtain ⟨Ao134,co134,eo134⟩:=Kd.R_slice HO_11.out
            subst eo134
            go_wp2_with (first | ((with_reducible refine gate_callee (f:=17) rfl ?_);refine goesL_ (some 102) rfl rfl Try.func17 (by kernel_rfl) rfl #[.slice Ao134 t25.length co134,.int .i64 1] rfl lm_ ?_;(with_reducible refine (laws_markExitS.calls kj85 (fun k_=>some k_ = (.slice Ao134 t25.length co134 : Value).ownBlock) (.slice Ao134 t25.length co134) t25 1 t49 t50 w _ ?side1 ?side2 A131.out).mono ?_);(case side1=>repeat (first | (with_reducible first | exact HB.out | apply below_alloc | apply pw_below_drewN | apply below_drew1 | refine below_set ?_ GE1.out | refine below_set ?_ GE17.out | refine below_set ?_ GE21.out | refine below_set ?_ GE32.out) | exact HB.out));(case side2=>exact Kd.R_tight rfl HO_11.out);rintro e w135 ⟨rfl,hy0,hb,hkp⟩;refine ⟨_,rfl,?_⟩;have n0_:=a0_ (Kd.R_mono (ok':=fun k_=>some k_ ≠ (.slice Ao134 t25.length co134 : Value).ownBlock ∧ k_ ≠ gb17 ∧ k_ ≠ gb32) (Kd.R_keptB (HO_6.out) hkp (fun k_ hk_ hs_=>(hk_.1) hs_)) (fun k_ hk_=>⟨hk_.1.1,hk_.1.2.1,hk_.1.2.2⟩));have n1_:=a0_ (Kd.R_reok rfl hy0 (fun k_ e_=>HO_11.out.1 k_ e_));have n2_:=a0_ (Kd.R_mono (ok':=fun k_=>True) (Kd.R_keptB ((Kd.R_apart' HO_22000.out (Kd.R_typed HO_11.out) (by decide))) hkp (fun k_ hk_ hs_=>(hk_.2) hs_)) (fun k_ hk_=>trivial));have n3_:=a0_ (blk_kept (bb_ BK1.out) hkp (fun hs_=>(fun e_=>(Kd.R_ne HO_11.out BK1.out (by decide)) e_) hs_));have n4_:=a0_ (blk_kept (bb_ BK17.out) hkp (fun hs_=>(fun e_=>(Kd.R_away HO_11.out (fun _ hk=>hk.2.1)) e_) hs_));have n5_:=a0_ (blk_kept (bb_ BK21.out) hkp (fun hs_=>(fun e_=>(Kd.R_ne HO_11.out BK21.out (by decide)) e_) hs_));have n6_:=a0_ (blk_kept (bb_ BK32.out) hkp (fun hs_=>(fun e_=>(Kd.R_away HO_11.out (fun _ hk=>hk.2.2)) e_) hs_));have n7_:=a0_ (hb);clear HO_6 HO_11;clear HO_22000 BK1;clear BK17 BK21;clear BK32 HB;have HO_6:=n0_;have HO_11:=n1_;have HO_22000:=n2_;have BK1:=n3_;have BK17:=n4_;have BK21:=n5_;have BK32:=n6_;have HB:=n7_;clear n0_ n1_ n2_ n3_ n4_ n5_ n6_ n7_;(try clear hb);(try clear hkp);(try clear hy0)) | ((with_reducible refine gate_callee (f:=18) rfl ?_);refine goesL_ (some 105) rfl rfl Try.func18 (by kernel_rfl) rfl #[.slice Ao134 t50.length co134,.int .i64 1] rfl (by (try simp only [List.map_toArray,List.map_cons,List.map_nil]);first | done | (rw [show t50.length = t25.length from (Kd.R_reads' HO_11.out).1.symm] <;> rfl) | rfl | (simp only [List.length_drop,List.length_take];rfl)) ?_;(with_reducible refine (laws_heldExitS.calls kj85 _ _ t50 1 t51 _ ?side1 ?side2 A132.out).mono ?_);(case side1=>repeat (first | exact (Kd.R_reads' HO_11.out).2.2 | (with_reducible refine Kd.C_alloc ?_ _) | (with_reducible refine Kd.C_drewN ?_ _) | (with_reducible refine Kd.C_drew ?_)));(case side2=>rw [show t50.length = t25.length from (Kd.R_reads' HO_11.out).1.symm];exact (Kd.R_reads' HO_11.out).2.1);rintro e w' ⟨rfl,⟨nd,rfl⟩⟩;refine ⟨_,rfl,?_⟩))
            go_ret
            exact ⟨by first | rfl | (simp [errW_none,errW_some] <;> rfl) | (simp [*,errW_none,errW_some] <;> rfl),hb_⟩
           ·rw [if_neg c133] at H
            have c133b0 : decide (t51 < 0) = false:=decide_eq_false c133
            clear c133
            by_cases c136 : t51 = t49
            ·rw [if_pos c136] at H
             have c136b0 : (t51 == t49) = true:=beq_iff_eq.mpr c136
             have c136b1 : (t51 != t49) = false:=bne_eq_false_iff_eq.mpr c136
             clear c136
             replace H:=Option.bind_eq_some_iff.mp H
             obtain ⟨t52,A1370,H⟩:=H
             replace H : ((laws_toExitS.f kj85 l1).bind fun t55=>((impl_PopExit.f kj85 t52 t55).bind fun bt58=>((laws_eqExitS.f kj85 bt58.1 t10).bind fun t66=>(if t66 = true then ((laws_eqExit.f bt58.2.1 bt58.2.2.1 bt58.2.2.2.1 t13 t14 t15).bind fun t67=>(if t67 = true then (laws_FnExactPopExit.j2 kj85 t50 t49 (bt58.2.2.2.2 != t16)) else (laws_FnExactPopExit.j2 kj85 t50 t49 true))) else (laws_FnExactPopExit.j2 kj85 t50 t49 true))))) = some r:=H
             have A137:=a0_ A1370
             clear A1370
             replace H:=Option.bind_eq_some_iff.mp H
             obtain ⟨t55,A1380,H⟩:=H
             replace H : ((impl_PopExit.f kj85 t52 t55).bind fun bt58=>((laws_eqExitS.f kj85 bt58.1 t10).bind fun t66=>(if t66 = true then ((laws_eqExit.f bt58.2.1 bt58.2.2.1 bt58.2.2.2.1 t13 t14 t15).bind fun t67=>(if t67 = true then (laws_FnExactPopExit.j2 kj85 t50 t49 (bt58.2.2.2.2 != t16)) else (laws_FnExactPopExit.j2 kj85 t50 t49 true))) else (laws_FnExactPopExit.j2 kj85 t50 t49 true)))) = some r:=H
             have A138:=a0_ A1380
             clear A1380
             replace H:=Option.bind_eq_some_iff.mp H
             obtain ⟨⟨t58,t61,t62,t63,t64⟩,A1390,H⟩:=H
             replace H : ((laws_eqExitS.f kj85 t58 t10).bind fun t66=>(if t66 = true then ((laws_eqExit.f t61 t62 t63 t13 t14 t15).bind fun t67=>(if t67 = true then (laws_FnExactPopExit.j2 kj85 t50 t49 (t64 != t16)) else (laws_FnExactPopExit.j2 kj85 t50 t49 true))) else (laws_FnExactPopExit.j2 kj85 t50 t49 true))) = some r:=H
             have A139:=a0_ A1390
             clear A1390
             have HC140:=a0_ H
             clear H
             obtain ⟨Ao141,co141,eo141⟩:=Kd.R_slice HO_11.out
             subst eo141
             go_upto_region 32 with (first | ((with_reducible refine gate_callee (f:=17) rfl ?_);refine goesL_ (some 102) rfl rfl Try.func17 (by kernel_rfl) rfl #[.slice Ao141 t25.length co141,.int .i64 1] rfl lm_ ?_;(with_reducible refine (laws_markExitS.calls kj85 (fun k_=>some k_ = (.slice Ao141 t25.length co141 : Value).ownBlock) (.slice Ao141 t25.length co141) t25 1 t49 t50 w _ ?side1 ?side2 A131.out).mono ?_);(case side1=>repeat (first | (with_reducible first | exact HB.out | apply below_alloc | apply pw_below_drewN | apply below_drew1 | refine below_set ?_ GE1.out | refine below_set ?_ GE17.out | refine below_set ?_ GE21.out | refine below_set ?_ GE32.out) | exact HB.out));(case side2=>exact Kd.R_tight rfl HO_11.out);rintro e w142 ⟨rfl,hy0,hb,hkp⟩;refine ⟨_,rfl,?_⟩;have n0_:=a0_ (Kd.R_mono (ok':=fun k_=>some k_ ≠ (.slice Ao141 t25.length co141 : Value).ownBlock ∧ k_ ≠ gb17 ∧ k_ ≠ gb32) (Kd.R_keptB (HO_6.out) hkp (fun k_ hk_ hs_=>(hk_.1) hs_)) (fun k_ hk_=>⟨hk_.1.1,hk_.1.2.1,hk_.1.2.2⟩));have n1_:=a0_ (Kd.R_reok rfl hy0 (fun k_ e_=>HO_11.out.1 k_ e_));have n2_:=a0_ (Kd.R_mono (ok':=fun k_=>True) (Kd.R_keptB ((Kd.R_apart' HO_22000.out (Kd.R_typed HO_11.out) (by decide))) hkp (fun k_ hk_ hs_=>(hk_.2) hs_)) (fun k_ hk_=>trivial));have n3_:=a0_ (blk_kept (bb_ BK1.out) hkp (fun hs_=>(fun e_=>(Kd.R_ne HO_11.out BK1.out (by decide)) e_) hs_));have n4_:=a0_ (blk_kept (bb_ BK17.out) hkp (fun hs_=>(fun e_=>(Kd.R_away HO_11.out (fun _ hk=>hk.2.1)) e_) hs_));have n5_:=a0_ (blk_kept (bb_ BK21.out) hkp (fun hs_=>(fun e_=>(Kd.R_ne HO_11.out BK21.out (by decide)) e_) hs_));have n6_:=a0_ (blk_kept (bb_ BK32.out) hkp (fun hs_=>(fun e_=>(Kd.R_away HO_11.out (fun _ hk=>hk.2.2)) e_) hs_));have n7_:=a0_ (hb);clear HO_6 HO_11;clear HO_22000 BK1;clear BK17 BK21;clear BK32 HB;have HO_6:=n0_;have HO_11:=n1_;have HO_22000:=n2_;have BK1:=n3_;have BK17:=n4_;have BK21:=n5_;have BK32:=n6_;have HB:=n7_;clear n0_ n1_ n2_ n3_ n4_ n5_ n6_ n7_;(try clear hb);(try clear hkp);(try clear hy0)) | ((with_reducible refine gate_callee (f:=18) rfl ?_);refine goesL_ (some 105) rfl rfl Try.func18 (by kernel_rfl) rfl #[.slice Ao141 t50.length co141,.int .i64 1] rfl (by (try simp only [List.map_toArray,List.map_cons,List.map_nil]);first | done | (rw [show t50.length = t25.length from (Kd.R_reads' HO_11.out).1.symm] <;> rfl) | rfl | (simp only [List.length_drop,List.length_take];rfl)) ?_;(with_reducible refine (laws_heldExitS.calls kj85 _ _ t50 1 t51 _ ?side1 ?side2 A132.out).mono ?_);(case side1=>repeat (first | exact (Kd.R_reads' HO_11.out).2.2 | (with_reducible refine Kd.C_alloc ?_ _) | (with_reducible refine Kd.C_drewN ?_ _) | (with_reducible refine Kd.C_drew ?_)));(case side2=>rw [show t50.length = t25.length from (Kd.R_reads' HO_11.out).1.symm];exact (Kd.R_reads' HO_11.out).2.1);rintro e w' ⟨rfl,⟨nd,rfl⟩⟩;refine ⟨_,rfl,?_⟩;(try (rw [drewN_self w142];generalize hq_ : World.drewN w142 _ = w142;have n0_ : Aside0 (Kd.R k38 38 w142 w.heap.size (fun k_=>(some k_ ≠ (v11 : Value).ownBlock ∧ (k_ ≠ gb17 ∧ k_ ≠ gb32))) (.slice Ao141 t25.length co141) t50):=⟨by rw [← hq_];exact (rr_ HO_11.out)⟩;have n1_ : Aside0 (Kd.R k76 76 w142 w.heap.size (fun k_=>True) (.slice Ao35 t44.length co35) t44):=⟨by rw [← hq_];exact (rr_ HO_22000.out)⟩;have n2_ : Aside0 (Kd.R k38 38 w142 w.heap.size (fun k_=>(some k_ ≠ (.slice Ao141 t25.length co141 : Value).ownBlock ∧ (k_ ≠ gb17 ∧ k_ ≠ gb32))) v11 t10):=⟨by rw [← hq_];exact (rr_ HO_6.out)⟩;have n3_ : Aside0 (w142.heap[gb1]? = some (.cells #[.slice A0_0 l0_0.length c0_0] 24 (0,0))):=⟨by rw [← hq_];exact (bb_ BK1.out)⟩;have n4_ : Aside0 (w142.heap[gb17]? = some (.cells #[.int .i64 t13,.int .i64 t14,.int .i64 t15] 38 (0,0))):=⟨by rw [← hq_];exact (bb_ BK17.out)⟩;have n5_ : Aside0 (w142.heap[gb21]? = some (.cells #[.slice Ao35 t44.length co35] 35 (0,0))):=⟨by rw [← hq_];exact (bb_ BK21.out)⟩;have n6_ : Aside0 (w142.heap[gb32]? = some (.cells #[.int .i64 t28,.int .i64 t29,.int .i64 t30] 38 (0,0))):=⟨by rw [← hq_];exact (bb_ BK32.out)⟩;have n7_ : Aside0 (Below w.heap.size w w142):=⟨by rw [← hq_];exact hb_⟩;clear HO_11 HO_22000 HO_6 BK1 BK17 BK21 BK32 HB hq_;have HO_11:=n0_;have HO_22000:=n1_;have HO_6:=n2_;have BK1:=n3_;have BK17:=n4_;have BK21:=n5_;have BK32:=n6_;have HB:=n7_;clear n0_ n1_ n2_ n3_ n4_ n5_ n6_ n7_));have hnb143:=NB1_17.out;have hnc143:=NB17_1.out;have hnb144:=NB1_21.out;have hnc144:=NB21_1.out;have hnb145:=NB1_32.out;have hnc145:=NB32_1.out;have hcz146_0 : w142.cell? ⟨gb1,0,none⟩ = some (.slice A0_0 l0_0.length c0_0):=(blk_cell BK1.out 0).trans rfl;have hfz146_0:=blk_frozen BK1.out 0) | ((with_reducible refine gate_callee (f:=10) rfl ?_);refine goesL_ (some 113) rfl rfl Try.func10 (by kernel_rfl) rfl #[.agg #[.slice A0_0 l0_0.length c0_0]] rfl lm_ ?_;(with_reducible refine (laws_toTree.calls kj85 _ _ l0_0 t52 _ ?side1 ?side2 A137.out).mono ?_);(case side1=>exact cc_ (Kd.C_below HR0_0.out HB.out));(case side2=>exact HC0_0.out);rintro e w147 ⟨v53,rfl,ho0,hb⟩;refine ⟨_,rfl,?_⟩;have n0_:=a0_ (Kd.R_below (rr_ HO_6.out) hb);have n1_:=a0_ (Kd.R_below (rr_ HO_11.out) hb);have n2_:=a0_ (Kd.R_elder' (rr_ HO_22000.out) (Kd.R_base ho0) hb);have n3_:=a0_ (Kd.R_lower (Kd.R_new' ho0 (Kd.R_lt (rr_ HO_22000.out))) (below_size hb_));have n4_:=a0_ (blk_below (g:=gb1) (o:=.cells #[.slice A0_0 l0_0.length c0_0] 24 (0,0)) (bb_ BK1.out) hb);have n5_:=a0_ (blk_below (g:=gb17) (o:=.cells #[.int .i64 t13,.int .i64 t14,.int .i64 t15] 38 (0,0)) (bb_ BK17.out) hb);have n6_:=a0_ (blk_below (g:=gb21) (o:=.cells #[.slice Ao35 t44.length co35] 35 (0,0)) (bb_ BK21.out) hb);have n7_:=a0_ (blk_below (g:=gb32) (o:=.cells #[.int .i64 t28,.int .i64 t29,.int .i64 t30] 38 (0,0)) (bb_ BK32.out) hb);have n8_:=a0_ (below_step hb_ hb);clear HO_6 HO_11;clear HO_22000 BK1;clear BK17 BK21;clear BK32 HB;have HO_6:=n0_;have HO_11:=n1_;have HO_22000:=n2_;have HO54:=n3_;have BK1:=n4_;have BK17:=n5_;have BK21:=n6_;have BK32:=n7_;have HB:=n8_;clear n0_ n1_ n2_ n3_ n4_ n5_ n6_ n7_ n8_;(try clear hb);(try clear hb2);(try clear hk);(try clear hi);(try clear ho0)) | ((with_reducible refine gate_callee (f:=11) rfl ?_);refine goesL_ (some 115) rfl rfl Try.func11 (by kernel_rfl) rfl #[.slice A1 l1.length c1] rfl lm_ ?_;(with_reducible refine (laws_toExitS.calls kj85 _ _ l1 t55 _ ?side1 ?side2 A138.out).mono ?_);(case side1=>exact cc_ (Kd.C_below HR1.out HB.out));(case side2=>exact HC1.out);rintro e w148 ⟨v56,rfl,ho0,hb⟩;refine ⟨_,rfl,?_⟩;have n0_:=a0_ (Kd.R_elder' (rr_ HO_6.out) (Kd.R_base ho0) hb);have n1_:=a0_ (Kd.R_elder' (rr_ HO_11.out) (Kd.R_base ho0) hb);have n2_:=a0_ (Kd.R_below (rr_ HO_22000.out) hb);have n3_:=a0_ (Kd.R_below (rr_ HO54.out) hb);have n4_:=a0_ (Kd.R_lower (Kd.R_newB (Kd.R_newB (Kd.R_new' (Kd.R_new' ho0 (Kd.R_lt (rr_ HO_6.out))) (Kd.R_lt (rr_ HO_11.out))) (g:=gb17) (o:=.cells #[.int .i64 t13,.int .i64 t14,.int .i64 t15] 38 (0,0)) (bb_ BK17.out)) (g:=gb32) (o:=.cells #[.int .i64 t28,.int .i64 t29,.int .i64 t30] 38 (0,0)) (bb_ BK32.out)) (below_size hb_));have n5_:=a0_ (blk_below (g:=gb1) (o:=.cells #[.slice A0_0 l0_0.length c0_0] 24 (0,0)) (bb_ BK1.out) hb);have n6_:=a0_ (blk_below (g:=gb17) (o:=.cells #[.int .i64 t13,.int .i64 t14,.int .i64 t15] 38 (0,0)) (bb_ BK17.out) hb);have n7_:=a0_ (blk_below (g:=gb21) (o:=.cells #[.slice Ao35 t44.length co35] 35 (0,0)) (bb_ BK21.out) hb);have n8_:=a0_ (blk_below (g:=gb32) (o:=.cells #[.int .i64 t28,.int .i64 t29,.int .i64 t30] 38 (0,0)) (bb_ BK32.out) hb);have n9_:=a0_ (below_step hb_ hb);clear HO_6 HO_11;clear HO_22000 HO54;clear BK1 BK17;clear BK21 BK32 HB;have HO_6:=n0_;have HO_11:=n1_;have HO_22000:=n2_;have HO54:=n3_;have HO57:=n4_;have BK1:=n5_;have BK17:=n6_;have BK21:=n7_;have BK32:=n8_;have HB:=n9_;clear n0_ n1_ n2_ n3_ n4_ n5_ n6_ n7_ n8_ n9_;(try clear hb);(try clear hb2);(try clear hk);(try clear hi);(try clear ho0);obtain ⟨Ao149,co149,eo149⟩:=Kd.R_slice HO54.out;subst eo149;obtain ⟨Ao150,co150,eo150⟩:=Kd.R_slice HO57.out;subst eo150) | ((with_reducible refine gate_callee (f:=20) rfl ?_);refine goesL_ (some 116) rfl rfl Try.func20 (by kernel_rfl) rfl #[.agg #[.slice Ao149 t52.length co149],.slice Ao150 t55.length co150] rfl lm_ ?_;(with_reducible refine (impl_PopExit.calls kj85 _ _ t52 _ _ t55 t58 t61 t62 t63 t64 _ ?side1 ?side2 ?side3 ?side4 A139.out).mono ?_);(case side1=>repeat (first | exact (Kd.R_reads' HO54.out).2.2 | (with_reducible refine Kd.C_alloc ?_ _) | (with_reducible refine Kd.C_drewN ?_ _) | (with_reducible refine Kd.C_drew ?_)));(case side2=>exact (Kd.R_reads' HO54.out).2.1);(case side3=>repeat (first | exact (Kd.R_reads' HO57.out).2.2 | (with_reducible refine Kd.C_alloc ?_ _) | (with_reducible refine Kd.C_drewN ?_ _) | (with_reducible refine Kd.C_drew ?_)));(case side4=>exact (Kd.R_reads' HO57.out).2.1);rintro e w151 ⟨v59,rfl,ho0,hb⟩;refine ⟨_,rfl,?_⟩;have n0_:=a0_ (Kd.R_elder' (rr_ HO_6.out) (Kd.R_base ho0) hb);have n1_:=a0_ (Kd.R_elder' (rr_ HO_11.out) (Kd.R_base ho0) hb);have n2_:=a0_ (Kd.R_below (rr_ HO_22000.out) hb);have n3_:=a0_ (Kd.R_below (rr_ HO54.out) hb);have n4_:=a0_ (Kd.R_elder' (rr_ HO57.out) (Kd.R_base ho0) hb);have n5_:=a0_ (Kd.R_lower (Kd.R_newB (Kd.R_newB (Kd.R_new' (Kd.R_new' (Kd.R_new' ho0 (Kd.R_lt (rr_ HO_6.out))) (Kd.R_lt (rr_ HO_11.out))) (Kd.R_lt (rr_ HO57.out))) (g:=gb17) (o:=.cells #[.int .i64 t13,.int .i64 t14,.int .i64 t15] 38 (0,0)) (bb_ BK17.out)) (g:=gb32) (o:=.cells #[.int .i64 t28,.int .i64 t29,.int .i64 t30] 38 (0,0)) (bb_ BK32.out)) (below_size hb_));have n6_:=a0_ (blk_below (g:=gb1) (o:=.cells #[.slice A0_0 l0_0.length c0_0] 24 (0,0)) (bb_ BK1.out) hb);have n7_:=a0_ (blk_below (g:=gb17) (o:=.cells #[.int .i64 t13,.int .i64 t14,.int .i64 t15] 38 (0,0)) (bb_ BK17.out) hb);have n8_:=a0_ (blk_below (g:=gb21) (o:=.cells #[.slice Ao35 t44.length co35] 35 (0,0)) (bb_ BK21.out) hb);have n9_:=a0_ (blk_below (g:=gb32) (o:=.cells #[.int .i64 t28,.int .i64 t29,.int .i64 t30] 38 (0,0)) (bb_ BK32.out) hb);have n10_:=a0_ (below_step hb_ hb);clear HO_6 HO_11;clear HO_22000 HO54;clear HO57 BK1;clear BK17 BK21;clear BK32 HB;have HO_6:=n0_;have HO_11:=n1_;have HO_22000:=n2_;have HO54:=n3_;have HO57:=n4_;have HO60:=n5_;have BK1:=n6_;have BK17:=n7_;have BK21:=n8_;have BK32:=n9_;have HB:=n10_;clear n0_ n1_ n2_ n3_ n4_ n5_ n6_ n7_ n8_ n9_ n10_;(try clear hb);(try clear hb2);(try clear hk);(try clear hi);(try clear ho0)) | ((with_reducible refine gate_dst (N:=18) rfl ?_);refine box_event ?hg (N:=18) ?hd (cs:=#[.int .i64 0,.int .i64 0,.int .i64 0]) (t:=38) ?hr ?_;(case hd=>rfl);(case hg=>rfl);(case hr=>first | (go_simp;done) | (go_simp;rfl));intro gb65 hg w152 hbox hb;have n0_:=a0_ (Kd.R_below (Kd.R_elderB (rr_ HO_6.out) gb65 (Nat.le_of_eq hg.symm)) hb);have n1_:=a0_ (Kd.R_below (Kd.R_elderB (rr_ HO_11.out) gb65 (Nat.le_of_eq hg.symm)) hb);have n2_:=a0_ (Kd.R_below (rr_ HO_22000.out) hb);have n3_:=a0_ (Kd.R_below (rr_ HO54.out) hb);have n4_:=a0_ (Kd.R_below (Kd.R_elderB (rr_ HO57.out) gb65 (Nat.le_of_eq hg.symm)) hb);have n5_:=a0_ (Kd.R_below (Kd.R_elderB (rr_ HO60.out) gb65 (Nat.le_of_eq hg.symm)) hb);have n6_:=a0_ (blk_below (g:=gb1) (o:=.cells #[.slice A0_0 l0_0.length c0_0] 24 (0,0)) (bb_ BK1.out) hb);have n7_:=a0_ (blk_below (g:=gb17) (o:=.cells #[.int .i64 t13,.int .i64 t14,.int .i64 t15] 38 (0,0)) (bb_ BK17.out) hb);have n8_:=a0_ (blk_below (g:=gb21) (o:=.cells #[.slice Ao35 t44.length co35] 35 (0,0)) (bb_ BK21.out) hb);have n9_:=a0_ (blk_below (g:=gb32) (o:=.cells #[.int .i64 t28,.int .i64 t29,.int .i64 t30] 38 (0,0)) (bb_ BK32.out) hb);have n10_:=a0_ (below_step hb_ hb);have n11_:=a0_ (hbox);have n12_:=a0_ ((by rw [hg];exact (below_size hb_) : w.heap.size ≤ gb65));have n13_:=a0_ ((by rw [hg];exact (below_size hb_) : w.heap.size ≤ gb65));have n14_:=a0_ ((by rw [hg];exact Nat.ne_of_lt (blk_lt (g:=gb1) (o:=.cells #[.slice A0_0 l0_0.length c0_0] 24 (0,0)) (bb_ BK1.out)) : gb1 ≠ gb65));have n15_:=a0_ ((by rw [hg];exact Nat.ne_of_gt (blk_lt (g:=gb1) (o:=.cells #[.slice A0_0 l0_0.length c0_0] 24 (0,0)) (bb_ BK1.out)) : gb65 ≠ gb1));have n16_:=a0_ ((by rw [hg];exact Nat.ne_of_lt (blk_lt (g:=gb17) (o:=.cells #[.int .i64 t13,.int .i64 t14,.int .i64 t15] 38 (0,0)) (bb_ BK17.out)) : gb17 ≠ gb65));have n17_:=a0_ ((by rw [hg];exact Nat.ne_of_gt (blk_lt (g:=gb17) (o:=.cells #[.int .i64 t13,.int .i64 t14,.int .i64 t15] 38 (0,0)) (bb_ BK17.out)) : gb65 ≠ gb17));have n18_:=a0_ ((by rw [hg];exact Nat.ne_of_lt (blk_lt (g:=gb21) (o:=.cells #[.slice Ao35 t44.length co35] 35 (0,0)) (bb_ BK21.out)) : gb21 ≠ gb65));have n19_:=a0_ ((by rw [hg];exact Nat.ne_of_gt (blk_lt (g:=gb21) (o:=.cells #[.slice Ao35 t44.length co35] 35 (0,0)) (bb_ BK21.out)) : gb65 ≠ gb21));have n20_:=a0_ ((by rw [hg];exact Nat.ne_of_lt (blk_lt (g:=gb32) (o:=.cells #[.int .i64 t28,.int .i64 t29,.int .i64 t30] 38 (0,0)) (bb_ BK32.out)) : gb32 ≠ gb65));have n21_:=a0_ ((by rw [hg];exact Nat.ne_of_gt (blk_lt (g:=gb32) (o:=.cells #[.int .i64 t28,.int .i64 t29,.int .i64 t30] 38 (0,0)) (bb_ BK32.out)) : gb65 ≠ gb32));clear HO_6 HO_11;clear HO_22000 HO54;clear HO57 HO60;clear BK1 BK17;clear BK21 BK32 HB;have HO_6:=n0_;have HO_11:=n1_;have HO_22000:=n2_;have HO54:=n3_;have HO57:=n4_;have HO60:=n5_;have BK1:=n6_;have BK17:=n7_;have BK21:=n8_;have BK32:=n9_;have HB:=n10_;have BK65:=n11_;have GW65:=n12_;have GE65:=n13_;have NB1_65:=n14_;have NB65_1:=n15_;have NB17_65:=n16_;have NB65_17:=n17_;have NB21_65:=n18_;have NB65_21:=n19_;have NB32_65:=n20_;have NB65_32:=n21_;clear n0_ n1_ n2_ n3_ n4_ n5_ n6_ n7_ n8_ n9_ n10_ n11_ n12_ n13_ n14_ n15_ n16_ n17_ n18_ n19_ n20_ n21_;clear hb hbox hg;have hnb153:=NB65_1.out;have hnc153:=NB1_65.out;have hnb154:=NB65_17.out;have hnc154:=NB17_65.out;have hnb155:=NB65_21.out;have hnc155:=NB21_65.out;have hnb156:=NB65_32.out;have hnc156:=NB32_65.out;have hcz157_0 : w152.cell? ⟨gb65,0,none⟩ = some (.int .i64 0):=(blk_cell BK65.out 0).trans rfl;have hcz157_1 : w152.cell? ⟨gb65,1,none⟩ = some (.int .i64 0):=(blk_cell BK65.out 1).trans rfl;have hcz157_2 : w152.cell? ⟨gb65,2,none⟩ = some (.int .i64 0):=(blk_cell BK65.out 2).trans rfl;have hfz157_0:=blk_frozen BK65.out 0;have hfz157_1:=blk_frozen BK65.out 1;have hfz157_2:=blk_frozen BK65.out 2))
             (try simp only [Act.put,List.setIfInBounds_toArray,List.set_cons_zero,List.set_cons_succ])
             go_cut [134] (fun v134 wc=>∃ (kq : Nat) (x134_139 : Bool),v134 = .bool x134_139 ∧ Aside0 (laws_FnExactPopExit.j2 kq t50 t49 x134_139 = some r) ∧ Aside0 (kq ≤ kj85) ∧ Aside0 (Kd.R k38 38 wc w.heap.size (fun k_=>k_ ≠ gb17 ∧ k_ ≠ gb32 ∧ k_ ≠ gb65) (.slice Ao141 t25.length co141) t50) ∧ Aside0 (Kd.R k76 76 wc w.heap.size (fun _=>True) (.slice Ao35 t44.length co35) t44) ∧ Aside0 (wc.heap[gb1]? = some (.cells #[(.slice A0_0 l0_0.length c0_0)] 24 (0,0))) ∧ Aside0 (wc.heap[gb17]? = some (.cells #[.int .i64 t13,.int .i64 t14,.int .i64 t15] 38 (0,0))) ∧ Aside0 (wc.heap[gb21]? = some (.cells #[(.slice Ao35 t44.length co35)] 35 (0,0))) ∧ Aside0 (wc.heap[gb32]? = some (.cells #[.int .i64 t28,.int .i64 t29,.int .i64 t30] 38 (0,0))) ∧ Aside0 (wc.heap[gb65]? = some (.cells #[.int .i64 t61,.int .i64 t62,.int .i64 t63] 38 (0,0))) ∧ Aside0 (Below w.heap.size w wc))
             case first =>
              have H:=HC140.out
              clear HC140
              replace H:=Option.bind_eq_some_iff.mp H
              obtain ⟨t66,A1580,H⟩:=H
              replace H : (if t66 = true then ((laws_eqExit.f t61 t62 t63 t13 t14 t15).bind fun t67=>(if t67 = true then (laws_FnExactPopExit.j2 kj85 t50 t49 (t64 != t16)) else (laws_FnExactPopExit.j2 kj85 t50 t49 true))) else (laws_FnExactPopExit.j2 kj85 t50 t49 true)) = some r:=H
              have A158:=a0_ A1580
              clear A1580
              by_cases c159 : t66 = true
              ·subst c159
               have H1 : ((laws_eqExit.f t61 t62 t63 t13 t14 t15).bind fun t67=>(if t67 = true then (laws_FnExactPopExit.j2 kj85 t50 t49 (t64 != t16)) else (laws_FnExactPopExit.j2 kj85 t50 t49 true))) = some r:=by rw [if_pos rfl] at H;exact H
               clear H
               have H:=H1
               clear H1
               replace H:=Option.bind_eq_some_iff.mp H
               obtain ⟨t67,A1600,H⟩:=H
               replace H : (if t67 = true then (laws_FnExactPopExit.j2 kj85 t50 t49 (t64 != t16)) else (laws_FnExactPopExit.j2 kj85 t50 t49 true)) = some r:=H
               have A160:=a0_ A1600
               clear A1600
               by_cases c161 : t67 = true
               ·subst c161
                have H1 : (laws_FnExactPopExit.j2 kj85 t50 t49 (t64 != t16)) = some r:=by rw [if_pos rfl] at H;exact H
                clear H
                have H:=H1
                clear H1
                have H':=a0_ H
                clear H
                obtain ⟨Ao162,co162,eo162⟩:=Kd.R_slice HO60.out
                subst eo162
                obtain ⟨Ao163,co163,eo163⟩:=Kd.R_slice HO_6.out
                subst eo163
                go_wp2_with (first | ((with_reducible refine gate_callee (f:=14) rfl ?_);refine goesL_ (some 122) rfl rfl Try.func14 (by kernel_rfl) rfl #[.slice Ao162 t58.length co162,.slice Ao163 t10.length co163] rfl lm_ ?_;(with_reducible refine (laws_eqExitS.calls kj85 _ _ t58 _ _ t10 true _ ?side1 ?side2 ?side3 ?side4 A158.out).mono ?_);(case side1=>refine (Kd.R_reads' (e:=38) (base:=w.heap.size) (ok:=fun k_=>((((((True ∧ some k_ ≠ (.slice Ao163 t10.length co163 : Value).ownBlock) ∧ some k_ ≠ (.slice Ao141 t25.length co141 : Value).ownBlock) ∧ some k_ ≠ (.slice Ao150 t55.length co150 : Value).ownBlock) ∧ k_ ≠ gb17) ∧ k_ ≠ gb32) ∧ k_ ≠ gb65)) (n:=t58.length) (c:=co162) ?_).2.2;exact (by (with_reducible repeat (first | apply Kd.R_alloc | apply Kd.R_drewN | apply Kd.R_drew));exact (Kd.R_mono (Kd.R_far (p:=⟨gb65,2,none⟩) (Kd.R_far (p:=⟨gb65,1,none⟩) (Kd.R_far (p:=⟨gb65,0,none⟩) (Kd.R_mono HO60.out (fun k_ hk=>(⟨hk,hk.2⟩ : _ ∧ k_ ≠ gb65))) (fun _ hk=>hk.2) (.int .i64 t61)) (fun _ hk=>hk.2) (.int .i64 t62)) (fun _ hk=>hk.2) (.int .i64 t63)) (fun _ h_=>h_.1))));(case side2=>exact (Kd.R_reads' HO60.out).2.1);(case side3=>refine (Kd.R_reads' (e:=38) (base:=w.heap.size) (ok:=fun k_=>((((some k_ ≠ (.slice Ao141 t25.length co141 : Value).ownBlock ∧ (k_ ≠ gb17 ∧ k_ ≠ gb32)) ∧ some k_ ≠ (.slice Ao150 t55.length co150 : Value).ownBlock) ∧ some k_ ≠ (.slice Ao162 t58.length co162 : Value).ownBlock) ∧ k_ ≠ gb65)) (n:=t10.length) (c:=co163) ?_).2.2;exact (by (with_reducible repeat (first | apply Kd.R_alloc | apply Kd.R_drewN | apply Kd.R_drew));exact (Kd.R_mono (Kd.R_far (p:=⟨gb65,2,none⟩) (Kd.R_far (p:=⟨gb65,1,none⟩) (Kd.R_far (p:=⟨gb65,0,none⟩) (Kd.R_mono HO_6.out (fun k_ hk=>(⟨hk,hk.2⟩ : _ ∧ k_ ≠ gb65))) (fun _ hk=>hk.2) (.int .i64 t61)) (fun _ hk=>hk.2) (.int .i64 t62)) (fun _ hk=>hk.2) (.int .i64 t63)) (fun _ h_=>h_.1))));(case side4=>exact (Kd.R_reads' HO_6.out).2.1);rintro e w164 ⟨rfl,hb⟩;refine ⟨_,rfl,?_⟩;have n0_:=a0_ (Kd.R_below (by (with_reducible repeat (first | apply Kd.R_alloc | apply Kd.R_drewN | apply Kd.R_drew));exact (Kd.R_mono (Kd.R_far (p:=⟨gb65,2,none⟩) (Kd.R_far (p:=⟨gb65,1,none⟩) (Kd.R_far (p:=⟨gb65,0,none⟩) (Kd.R_mono HO_6.out (fun k_ hk=>(⟨hk,hk.2⟩ : _ ∧ k_ ≠ gb65))) (fun _ hk=>hk.2) (.int .i64 t61)) (fun _ hk=>hk.2) (.int .i64 t62)) (fun _ hk=>hk.2) (.int .i64 t63)) (fun _ h_=>h_.1))) hb);have n1_:=a0_ (Kd.R_below (by (with_reducible repeat (first | apply Kd.R_alloc | apply Kd.R_drewN | apply Kd.R_drew));exact (Kd.R_mono (Kd.R_far (p:=⟨gb65,2,none⟩) (Kd.R_far (p:=⟨gb65,1,none⟩) (Kd.R_far (p:=⟨gb65,0,none⟩) (Kd.R_mono HO_11.out (fun k_ hk=>(⟨hk,hk.2⟩ : _ ∧ k_ ≠ gb65))) (fun _ hk=>hk.2) (.int .i64 t61)) (fun _ hk=>hk.2) (.int .i64 t62)) (fun _ hk=>hk.2) (.int .i64 t63)) (fun _ h_=>h_.1))) hb);have n2_:=a0_ (Kd.R_below (by (with_reducible repeat (first | apply Kd.R_alloc | apply Kd.R_drewN | apply Kd.R_drew));exact (Kd.R_mono (Kd.R_far (p:=⟨gb65,2,none⟩) (Kd.R_far (p:=⟨gb65,1,none⟩) (Kd.R_far (p:=⟨gb65,0,none⟩) (Kd.R_types HO_22000.out BK65.out (by decide)) (fun _ hk=>hk.2) (.int .i64 t61)) (fun _ hk=>hk.2) (.int .i64 t62)) (fun _ hk=>hk.2) (.int .i64 t63)) (fun _ h_=>h_.1))) hb);have n3_:=a0_ (Kd.R_below (by (with_reducible repeat (first | apply Kd.R_alloc | apply Kd.R_drewN | apply Kd.R_drew));exact (Kd.R_mono (Kd.R_far (p:=⟨gb65,2,none⟩) (Kd.R_far (p:=⟨gb65,1,none⟩) (Kd.R_far (p:=⟨gb65,0,none⟩) (Kd.R_types HO54.out BK65.out (by decide)) (fun _ hk=>hk.2) (.int .i64 t61)) (fun _ hk=>hk.2) (.int .i64 t62)) (fun _ hk=>hk.2) (.int .i64 t63)) (fun _ h_=>h_.1))) hb);have n4_:=a0_ (Kd.R_below (by (with_reducible repeat (first | apply Kd.R_alloc | apply Kd.R_drewN | apply Kd.R_drew));exact (Kd.R_mono (Kd.R_far (p:=⟨gb65,2,none⟩) (Kd.R_far (p:=⟨gb65,1,none⟩) (Kd.R_far (p:=⟨gb65,0,none⟩) (Kd.R_mono HO57.out (fun k_ hk=>(⟨hk,hk.2⟩ : _ ∧ k_ ≠ gb65))) (fun _ hk=>hk.2) (.int .i64 t61)) (fun _ hk=>hk.2) (.int .i64 t62)) (fun _ hk=>hk.2) (.int .i64 t63)) (fun _ h_=>h_.1))) hb);have n5_:=a0_ (Kd.R_below (by (with_reducible repeat (first | apply Kd.R_alloc | apply Kd.R_drewN | apply Kd.R_drew));exact (Kd.R_mono (Kd.R_far (p:=⟨gb65,2,none⟩) (Kd.R_far (p:=⟨gb65,1,none⟩) (Kd.R_far (p:=⟨gb65,0,none⟩) (Kd.R_mono HO60.out (fun k_ hk=>(⟨hk,hk.2⟩ : _ ∧ k_ ≠ gb65))) (fun _ hk=>hk.2) (.int .i64 t61)) (fun _ hk=>hk.2) (.int .i64 t62)) (fun _ hk=>hk.2) (.int .i64 t63)) (fun _ h_=>h_.1))) hb);have n6_:=a0_ (blk_below (g:=gb1) (o:=.cells #[.slice A0_0 l0_0.length c0_0] 24 (0,0)) (by (with_reducible repeat (first | refine blk_drewN ?_ _ | refine blk_drew ?_ | refine blk_alloc ?_ _));refine blk_far ?_ NB1_65.out _;(with_reducible repeat (first | refine blk_drewN ?_ _ | refine blk_drew ?_ | refine blk_alloc ?_ _));refine blk_far ?_ NB1_65.out _;(with_reducible repeat (first | refine blk_drewN ?_ _ | refine blk_drew ?_ | refine blk_alloc ?_ _));refine blk_far ?_ NB1_65.out _;(with_reducible repeat (first | refine blk_drewN ?_ _ | refine blk_drew ?_ | refine blk_alloc ?_ _));exact BK1.out) hb);have n7_:=a0_ (blk_below (g:=gb17) (o:=.cells #[.int .i64 t13,.int .i64 t14,.int .i64 t15] 38 (0,0)) (by (with_reducible repeat (first | refine blk_drewN ?_ _ | refine blk_drew ?_ | refine blk_alloc ?_ _));refine blk_far ?_ NB17_65.out _;(with_reducible repeat (first | refine blk_drewN ?_ _ | refine blk_drew ?_ | refine blk_alloc ?_ _));refine blk_far ?_ NB17_65.out _;(with_reducible repeat (first | refine blk_drewN ?_ _ | refine blk_drew ?_ | refine blk_alloc ?_ _));refine blk_far ?_ NB17_65.out _;(with_reducible repeat (first | refine blk_drewN ?_ _ | refine blk_drew ?_ | refine blk_alloc ?_ _));exact BK17.out) hb);have n8_:=a0_ (blk_below (g:=gb21) (o:=.cells #[.slice Ao35 t44.length co35] 35 (0,0)) (by (with_reducible repeat (first | refine blk_drewN ?_ _ | refine blk_drew ?_ | refine blk_alloc ?_ _));refine blk_far ?_ NB21_65.out _;(with_reducible repeat (first | refine blk_drewN ?_ _ | refine blk_drew ?_ | refine blk_alloc ?_ _));refine blk_far ?_ NB21_65.out _;(with_reducible repeat (first | refine blk_drewN ?_ _ | refine blk_drew ?_ | refine blk_alloc ?_ _));refine blk_far ?_ NB21_65.out _;(with_reducible repeat (first | refine blk_drewN ?_ _ | refine blk_drew ?_ | refine blk_alloc ?_ _));exact BK21.out) hb);have n9_:=a0_ (blk_below (g:=gb32) (o:=.cells #[.int .i64 t28,.int .i64 t29,.int .i64 t30] 38 (0,0)) (by (with_reducible repeat (first | refine blk_drewN ?_ _ | refine blk_drew ?_ | refine blk_alloc ?_ _));refine blk_far ?_ NB32_65.out _;(with_reducible repeat (first | refine blk_drewN ?_ _ | refine blk_drew ?_ | refine blk_alloc ?_ _));refine blk_far ?_ NB32_65.out _;(with_reducible repeat (first | refine blk_drewN ?_ _ | refine blk_drew ?_ | refine blk_alloc ?_ _));refine blk_far ?_ NB32_65.out _;(with_reducible repeat (first | refine blk_drewN ?_ _ | refine blk_drew ?_ | refine blk_alloc ?_ _));exact BK32.out) hb);have n10_:=a0_ (blk_below (g:=gb65) (o:=.cells #[.int .i64 t61,.int .i64 t62,.int .i64 t63] 38 (0,0)) (by (with_reducible repeat (first | refine blk_drewN ?_ _ | refine blk_drew ?_ | refine blk_alloc ?_ _));refine blk_put (cs:=#[.int .i64 t61,.int .i64 t62,.int .i64 0]) ?_ 2 _ rfl;(with_reducible repeat (first | refine blk_drewN ?_ _ | refine blk_drew ?_ | refine blk_alloc ?_ _));refine blk_put (cs:=#[.int .i64 t61,.int .i64 0,.int .i64 0]) ?_ 1 _ rfl;(with_reducible repeat (first | refine blk_drewN ?_ _ | refine blk_drew ?_ | refine blk_alloc ?_ _));refine blk_put (cs:=#[.int .i64 0,.int .i64 0,.int .i64 0]) ?_ 0 _ rfl;(with_reducible repeat (first | refine blk_drewN ?_ _ | refine blk_drew ?_ | refine blk_alloc ?_ _));exact BK65.out) hb);have n11_:=a0_ (below_step hb_ hb);clear HO_6 HO_11;clear HO_22000 HO54;clear HO57 HO60;clear BK1 BK17;clear BK21 BK32;clear BK65 HB;have HO_6:=n0_;have HO_11:=n1_;have HO_22000:=n2_;have HO54:=n3_;have HO57:=n4_;have HO60:=n5_;have BK1:=n6_;have BK17:=n7_;have BK21:=n8_;have BK32:=n9_;have BK65:=n10_;have HB:=n11_;clear n0_ n1_ n2_ n3_ n4_ n5_ n6_ n7_ n8_ n9_ n10_ n11_;(try clear hb);(try clear hb2);(try clear hk);(try clear hi);have hnb165:=NB65_1.out;have hnc165:=NB1_65.out;have hnb166:=NB65_17.out;have hnc166:=NB17_65.out;have hnb167:=NB65_21.out;have hnc167:=NB21_65.out;have hnb168:=NB65_32.out;have hnc168:=NB32_65.out;have hcz169_0 : w164.cell? ⟨gb65,0,none⟩ = some (.int .i64 t61):=(blk_cell BK65.out 0).trans rfl;have hcz169_1 : w164.cell? ⟨gb65,1,none⟩ = some (.int .i64 t62):=(blk_cell BK65.out 1).trans rfl;have hcz169_2 : w164.cell? ⟨gb65,2,none⟩ = some (.int .i64 t63):=(blk_cell BK65.out 2).trans rfl;have hfz169_0:=blk_frozen BK65.out 0;have hfz169_1:=blk_frozen BK65.out 1;have hfz169_2:=blk_frozen BK65.out 2;have hnb170:=NB17_1.out;have hnc170:=NB1_17.out;have hnb171:=NB17_21.out;have hnc171:=NB21_17.out;have hnb172:=NB17_32.out;have hnc172:=NB32_17.out;have hcz173_0 : w164.cell? ⟨gb17,0,none⟩ = some (.int .i64 t13):=(blk_cell BK17.out 0).trans rfl;have hcz173_1 : w164.cell? ⟨gb17,1,none⟩ = some (.int .i64 t14):=(blk_cell BK17.out 1).trans rfl;have hcz173_2 : w164.cell? ⟨gb17,2,none⟩ = some (.int .i64 t15):=(blk_cell BK17.out 2).trans rfl;have hfz173_0:=blk_frozen BK17.out 0;have hfz173_1:=blk_frozen BK17.out 1;have hfz173_2:=blk_frozen BK17.out 2) | (go_at_call 21;(with_reducible refine (laws_eqExit.calls t61 t62 t63 t13 t14 t15 true _ A160.out).mono ?_);rintro e w174 ⟨rfl,hb⟩;have n0_:=a0_ (Kd.R_below (rr_ HO_6.out) hb);have n1_:=a0_ (Kd.R_below (rr_ HO_11.out) hb);have n2_:=a0_ (Kd.R_below (rr_ HO_22000.out) hb);have n3_:=a0_ (Kd.R_below (rr_ HO54.out) hb);have n4_:=a0_ (Kd.R_below (rr_ HO57.out) hb);have n5_:=a0_ (Kd.R_below (rr_ HO60.out) hb);have n6_:=a0_ (blk_below (g:=gb1) (o:=.cells #[.slice A0_0 l0_0.length c0_0] 24 (0,0)) (bb_ BK1.out) hb);have n7_:=a0_ (blk_below (g:=gb17) (o:=.cells #[.int .i64 t13,.int .i64 t14,.int .i64 t15] 38 (0,0)) (bb_ BK17.out) hb);have n8_:=a0_ (blk_below (g:=gb21) (o:=.cells #[.slice Ao35 t44.length co35] 35 (0,0)) (bb_ BK21.out) hb);have n9_:=a0_ (blk_below (g:=gb32) (o:=.cells #[.int .i64 t28,.int .i64 t29,.int .i64 t30] 38 (0,0)) (bb_ BK32.out) hb);have n10_:=a0_ (blk_below (g:=gb65) (o:=.cells #[.int .i64 t61,.int .i64 t62,.int .i64 t63] 38 (0,0)) (bb_ BK65.out) hb);have n11_:=a0_ (below_step hb_ hb);clear HO_6 HO_11;clear HO_22000 HO54;clear HO57 HO60;clear BK1 BK17;clear BK21 BK32;clear BK65 HB;have HO_6:=n0_;have HO_11:=n1_;have HO_22000:=n2_;have HO54:=n3_;have HO57:=n4_;have HO60:=n5_;have BK1:=n6_;have BK17:=n7_;have BK21:=n8_;have BK32:=n9_;have BK65:=n10_;have HB:=n11_;clear n0_ n1_ n2_ n3_ n4_ n5_ n6_ n7_ n8_ n9_ n10_ n11_;(try clear hb);(try clear hb2);(try clear hk);(try clear hi)))
                go_meet
                case rel=>exact ⟨_,((t64 != t16)),(by first | rfl | (simp;done) | (simp [*];done)),H',⟨by have:=HJ18.out;have:=HJ85.out;first | omega | exact Nat.le_refl _⟩,⟨by (try simp only [hl22000_85]);(with_reducible repeat (first | apply Kd.R_alloc | apply Kd.R_drewN | apply Kd.R_drew));exact Kd.R_mono HO_11.out (fun _ hk=>⟨hk.1.1.1.2.1,⟨hk.1.1.1.2.2,hk.2⟩⟩)⟩,⟨by (try simp only [hl22000_85]);(with_reducible repeat (first | apply Kd.R_alloc | apply Kd.R_drewN | apply Kd.R_drew));exact Kd.R_mono HO_22000.out (fun _ hk=>trivial)⟩,⟨by (try simp only [hl22000_85]);(with_reducible repeat (first | refine blk_drewN ?_ _ | refine blk_drew ?_ | refine blk_alloc ?_ _));exact BK1.out⟩,⟨by (try simp only [hl22000_85]);(with_reducible repeat (first | refine blk_drewN ?_ _ | refine blk_drew ?_ | refine blk_alloc ?_ _));exact BK17.out⟩,⟨by (try simp only [hl22000_85]);(with_reducible repeat (first | refine blk_drewN ?_ _ | refine blk_drew ?_ | refine blk_alloc ?_ _));exact BK21.out⟩,⟨by (try simp only [hl22000_85]);(with_reducible repeat (first | refine blk_drewN ?_ _ | refine blk_drew ?_ | refine blk_alloc ?_ _));exact BK32.out⟩,⟨by (try simp only [hl22000_85]);(with_reducible repeat (first | refine blk_drewN ?_ _ | refine blk_drew ?_ | refine blk_alloc ?_ _));exact BK65.out⟩,⟨hb_⟩⟩
               ·replace c161:=Bool.eq_false_iff.mpr c161
                subst c161
                have H1 : (laws_FnExactPopExit.j2 kj85 t50 t49 true) = some r:=by rw [if_neg (show ¬ (false = true) by decide)] at H;exact H
                clear H
                have H:=H1
                clear H1
                have H':=a0_ H
                clear H
                obtain ⟨Ao175,co175,eo175⟩:=Kd.R_slice HO60.out
                subst eo175
                obtain ⟨Ao176,co176,eo176⟩:=Kd.R_slice HO_6.out
                subst eo176
                go_wp2_with (first | ((with_reducible refine gate_callee (f:=14) rfl ?_);refine goesL_ (some 122) rfl rfl Try.func14 (by kernel_rfl) rfl #[.slice Ao175 t58.length co175,.slice Ao176 t10.length co176] rfl lm_ ?_;(with_reducible refine (laws_eqExitS.calls kj85 _ _ t58 _ _ t10 true _ ?side1 ?side2 ?side3 ?side4 A158.out).mono ?_);(case side1=>refine (Kd.R_reads' (e:=38) (base:=w.heap.size) (ok:=fun k_=>((((((True ∧ some k_ ≠ (.slice Ao176 t10.length co176 : Value).ownBlock) ∧ some k_ ≠ (.slice Ao141 t25.length co141 : Value).ownBlock) ∧ some k_ ≠ (.slice Ao150 t55.length co150 : Value).ownBlock) ∧ k_ ≠ gb17) ∧ k_ ≠ gb32) ∧ k_ ≠ gb65)) (n:=t58.length) (c:=co175) ?_).2.2;exact (by (with_reducible repeat (first | apply Kd.R_alloc | apply Kd.R_drewN | apply Kd.R_drew));exact (Kd.R_mono (Kd.R_far (p:=⟨gb65,2,none⟩) (Kd.R_far (p:=⟨gb65,1,none⟩) (Kd.R_far (p:=⟨gb65,0,none⟩) (Kd.R_mono HO60.out (fun k_ hk=>(⟨hk,hk.2⟩ : _ ∧ k_ ≠ gb65))) (fun _ hk=>hk.2) (.int .i64 t61)) (fun _ hk=>hk.2) (.int .i64 t62)) (fun _ hk=>hk.2) (.int .i64 t63)) (fun _ h_=>h_.1))));(case side2=>exact (Kd.R_reads' HO60.out).2.1);(case side3=>refine (Kd.R_reads' (e:=38) (base:=w.heap.size) (ok:=fun k_=>((((some k_ ≠ (.slice Ao141 t25.length co141 : Value).ownBlock ∧ (k_ ≠ gb17 ∧ k_ ≠ gb32)) ∧ some k_ ≠ (.slice Ao150 t55.length co150 : Value).ownBlock) ∧ some k_ ≠ (.slice Ao175 t58.length co175 : Value).ownBlock) ∧ k_ ≠ gb65)) (n:=t10.length) (c:=co176) ?_).2.2;exact (by (with_reducible repeat (first | apply Kd.R_alloc | apply Kd.R_drewN | apply Kd.R_drew));exact (Kd.R_mono (Kd.R_far (p:=⟨gb65,2,none⟩) (Kd.R_far (p:=⟨gb65,1,none⟩) (Kd.R_far (p:=⟨gb65,0,none⟩) (Kd.R_mono HO_6.out (fun k_ hk=>(⟨hk,hk.2⟩ : _ ∧ k_ ≠ gb65))) (fun _ hk=>hk.2) (.int .i64 t61)) (fun _ hk=>hk.2) (.int .i64 t62)) (fun _ hk=>hk.2) (.int .i64 t63)) (fun _ h_=>h_.1))));(case side4=>exact (Kd.R_reads' HO_6.out).2.1);rintro e w177 ⟨rfl,hb⟩;refine ⟨_,rfl,?_⟩;have n0_:=a0_ (Kd.R_below (by (with_reducible repeat (first | apply Kd.R_alloc | apply Kd.R_drewN | apply Kd.R_drew));exact (Kd.R_mono (Kd.R_far (p:=⟨gb65,2,none⟩) (Kd.R_far (p:=⟨gb65,1,none⟩) (Kd.R_far (p:=⟨gb65,0,none⟩) (Kd.R_mono HO_6.out (fun k_ hk=>(⟨hk,hk.2⟩ : _ ∧ k_ ≠ gb65))) (fun _ hk=>hk.2) (.int .i64 t61)) (fun _ hk=>hk.2) (.int .i64 t62)) (fun _ hk=>hk.2) (.int .i64 t63)) (fun _ h_=>h_.1))) hb);have n1_:=a0_ (Kd.R_below (by (with_reducible repeat (first | apply Kd.R_alloc | apply Kd.R_drewN | apply Kd.R_drew));exact (Kd.R_mono (Kd.R_far (p:=⟨gb65,2,none⟩) (Kd.R_far (p:=⟨gb65,1,none⟩) (Kd.R_far (p:=⟨gb65,0,none⟩) (Kd.R_mono HO_11.out (fun k_ hk=>(⟨hk,hk.2⟩ : _ ∧ k_ ≠ gb65))) (fun _ hk=>hk.2) (.int .i64 t61)) (fun _ hk=>hk.2) (.int .i64 t62)) (fun _ hk=>hk.2) (.int .i64 t63)) (fun _ h_=>h_.1))) hb);have n2_:=a0_ (Kd.R_below (by (with_reducible repeat (first | apply Kd.R_alloc | apply Kd.R_drewN | apply Kd.R_drew));exact (Kd.R_mono (Kd.R_far (p:=⟨gb65,2,none⟩) (Kd.R_far (p:=⟨gb65,1,none⟩) (Kd.R_far (p:=⟨gb65,0,none⟩) (Kd.R_types HO_22000.out BK65.out (by decide)) (fun _ hk=>hk.2) (.int .i64 t61)) (fun _ hk=>hk.2) (.int .i64 t62)) (fun _ hk=>hk.2) (.int .i64 t63)) (fun _ h_=>h_.1))) hb);have n3_:=a0_ (Kd.R_below (by (with_reducible repeat (first | apply Kd.R_alloc | apply Kd.R_drewN | apply Kd.R_drew));exact (Kd.R_mono (Kd.R_far (p:=⟨gb65,2,none⟩) (Kd.R_far (p:=⟨gb65,1,none⟩) (Kd.R_far (p:=⟨gb65,0,none⟩) (Kd.R_types HO54.out BK65.out (by decide)) (fun _ hk=>hk.2) (.int .i64 t61)) (fun _ hk=>hk.2) (.int .i64 t62)) (fun _ hk=>hk.2) (.int .i64 t63)) (fun _ h_=>h_.1))) hb);have n4_:=a0_ (Kd.R_below (by (with_reducible repeat (first | apply Kd.R_alloc | apply Kd.R_drewN | apply Kd.R_drew));exact (Kd.R_mono (Kd.R_far (p:=⟨gb65,2,none⟩) (Kd.R_far (p:=⟨gb65,1,none⟩) (Kd.R_far (p:=⟨gb65,0,none⟩) (Kd.R_mono HO57.out (fun k_ hk=>(⟨hk,hk.2⟩ : _ ∧ k_ ≠ gb65))) (fun _ hk=>hk.2) (.int .i64 t61)) (fun _ hk=>hk.2) (.int .i64 t62)) (fun _ hk=>hk.2) (.int .i64 t63)) (fun _ h_=>h_.1))) hb);have n5_:=a0_ (Kd.R_below (by (with_reducible repeat (first | apply Kd.R_alloc | apply Kd.R_drewN | apply Kd.R_drew));exact (Kd.R_mono (Kd.R_far (p:=⟨gb65,2,none⟩) (Kd.R_far (p:=⟨gb65,1,none⟩) (Kd.R_far (p:=⟨gb65,0,none⟩) (Kd.R_mono HO60.out (fun k_ hk=>(⟨hk,hk.2⟩ : _ ∧ k_ ≠ gb65))) (fun _ hk=>hk.2) (.int .i64 t61)) (fun _ hk=>hk.2) (.int .i64 t62)) (fun _ hk=>hk.2) (.int .i64 t63)) (fun _ h_=>h_.1))) hb);have n6_:=a0_ (blk_below (g:=gb1) (o:=.cells #[.slice A0_0 l0_0.length c0_0] 24 (0,0)) (by (with_reducible repeat (first | refine blk_drewN ?_ _ | refine blk_drew ?_ | refine blk_alloc ?_ _));refine blk_far ?_ NB1_65.out _;(with_reducible repeat (first | refine blk_drewN ?_ _ | refine blk_drew ?_ | refine blk_alloc ?_ _));refine blk_far ?_ NB1_65.out _;(with_reducible repeat (first | refine blk_drewN ?_ _ | refine blk_drew ?_ | refine blk_alloc ?_ _));refine blk_far ?_ NB1_65.out _;(with_reducible repeat (first | refine blk_drewN ?_ _ | refine blk_drew ?_ | refine blk_alloc ?_ _));exact BK1.out) hb);have n7_:=a0_ (blk_below (g:=gb17) (o:=.cells #[.int .i64 t13,.int .i64 t14,.int .i64 t15] 38 (0,0)) (by (with_reducible repeat (first | refine blk_drewN ?_ _ | refine blk_drew ?_ | refine blk_alloc ?_ _));refine blk_far ?_ NB17_65.out _;(with_reducible repeat (first | refine blk_drewN ?_ _ | refine blk_drew ?_ | refine blk_alloc ?_ _));refine blk_far ?_ NB17_65.out _;(with_reducible repeat (first | refine blk_drewN ?_ _ | refine blk_drew ?_ | refine blk_alloc ?_ _));refine blk_far ?_ NB17_65.out _;(with_reducible repeat (first | refine blk_drewN ?_ _ | refine blk_drew ?_ | refine blk_alloc ?_ _));exact BK17.out) hb);have n8_:=a0_ (blk_below (g:=gb21) (o:=.cells #[.slice Ao35 t44.length co35] 35 (0,0)) (by (with_reducible repeat (first | refine blk_drewN ?_ _ | refine blk_drew ?_ | refine blk_alloc ?_ _));refine blk_far ?_ NB21_65.out _;(with_reducible repeat (first | refine blk_drewN ?_ _ | refine blk_drew ?_ | refine blk_alloc ?_ _));refine blk_far ?_ NB21_65.out _;(with_reducible repeat (first | refine blk_drewN ?_ _ | refine blk_drew ?_ | refine blk_alloc ?_ _));refine blk_far ?_ NB21_65.out _;(with_reducible repeat (first | refine blk_drewN ?_ _ | refine blk_drew ?_ | refine blk_alloc ?_ _));exact BK21.out) hb);have n9_:=a0_ (blk_below (g:=gb32) (o:=.cells #[.int .i64 t28,.int .i64 t29,.int .i64 t30] 38 (0,0)) (by (with_reducible repeat (first | refine blk_drewN ?_ _ | refine blk_drew ?_ | refine blk_alloc ?_ _));refine blk_far ?_ NB32_65.out _;(with_reducible repeat (first | refine blk_drewN ?_ _ | refine blk_drew ?_ | refine blk_alloc ?_ _));refine blk_far ?_ NB32_65.out _;(with_reducible repeat (first | refine blk_drewN ?_ _ | refine blk_drew ?_ | refine blk_alloc ?_ _));refine blk_far ?_ NB32_65.out _;(with_reducible repeat (first | refine blk_drewN ?_ _ | refine blk_drew ?_ | refine blk_alloc ?_ _));exact BK32.out) hb);have n10_:=a0_ (blk_below (g:=gb65) (o:=.cells #[.int .i64 t61,.int .i64 t62,.int .i64 t63] 38 (0,0)) (by (with_reducible repeat (first | refine blk_drewN ?_ _ | refine blk_drew ?_ | refine blk_alloc ?_ _));refine blk_put (cs:=#[.int .i64 t61,.int .i64 t62,.int .i64 0]) ?_ 2 _ rfl;(with_reducible repeat (first | refine blk_drewN ?_ _ | refine blk_drew ?_ | refine blk_alloc ?_ _));refine blk_put (cs:=#[.int .i64 t61,.int .i64 0,.int .i64 0]) ?_ 1 _ rfl;(with_reducible repeat (first | refine blk_drewN ?_ _ | refine blk_drew ?_ | refine blk_alloc ?_ _));refine blk_put (cs:=#[.int .i64 0,.int .i64 0,.int .i64 0]) ?_ 0 _ rfl;(with_reducible repeat (first | refine blk_drewN ?_ _ | refine blk_drew ?_ | refine blk_alloc ?_ _));exact BK65.out) hb);have n11_:=a0_ (below_step hb_ hb);clear HO_6 HO_11;clear HO_22000 HO54;clear HO57 HO60;clear BK1 BK17;clear BK21 BK32;clear BK65 HB;have HO_6:=n0_;have HO_11:=n1_;have HO_22000:=n2_;have HO54:=n3_;have HO57:=n4_;have HO60:=n5_;have BK1:=n6_;have BK17:=n7_;have BK21:=n8_;have BK32:=n9_;have BK65:=n10_;have HB:=n11_;clear n0_ n1_ n2_ n3_ n4_ n5_ n6_ n7_ n8_ n9_ n10_ n11_;(try clear hb);(try clear hb2);(try clear hk);(try clear hi);have hnb178:=NB65_1.out;have hnc178:=NB1_65.out;have hnb179:=NB65_17.out;have hnc179:=NB17_65.out;have hnb180:=NB65_21.out;have hnc180:=NB21_65.out;have hnb181:=NB65_32.out;have hnc181:=NB32_65.out;have hcz182_0 : w177.cell? ⟨gb65,0,none⟩ = some (.int .i64 t61):=(blk_cell BK65.out 0).trans rfl;have hcz182_1 : w177.cell? ⟨gb65,1,none⟩ = some (.int .i64 t62):=(blk_cell BK65.out 1).trans rfl;have hcz182_2 : w177.cell? ⟨gb65,2,none⟩ = some (.int .i64 t63):=(blk_cell BK65.out 2).trans rfl;have hfz182_0:=blk_frozen BK65.out 0;have hfz182_1:=blk_frozen BK65.out 1;have hfz182_2:=blk_frozen BK65.out 2;have hnb183:=NB17_1.out;have hnc183:=NB1_17.out;have hnb184:=NB17_21.out;have hnc184:=NB21_17.out;have hnb185:=NB17_32.out;have hnc185:=NB32_17.out;have hcz186_0 : w177.cell? ⟨gb17,0,none⟩ = some (.int .i64 t13):=(blk_cell BK17.out 0).trans rfl;have hcz186_1 : w177.cell? ⟨gb17,1,none⟩ = some (.int .i64 t14):=(blk_cell BK17.out 1).trans rfl;have hcz186_2 : w177.cell? ⟨gb17,2,none⟩ = some (.int .i64 t15):=(blk_cell BK17.out 2).trans rfl;have hfz186_0:=blk_frozen BK17.out 0;have hfz186_1:=blk_frozen BK17.out 1;have hfz186_2:=blk_frozen BK17.out 2) | (go_at_call 21;(with_reducible refine (laws_eqExit.calls t61 t62 t63 t13 t14 t15 false _ A160.out).mono ?_);rintro e w187 ⟨rfl,hb⟩;have n0_:=a0_ (Kd.R_below (rr_ HO_6.out) hb);have n1_:=a0_ (Kd.R_below (rr_ HO_11.out) hb);have n2_:=a0_ (Kd.R_below (rr_ HO_22000.out) hb);have n3_:=a0_ (Kd.R_below (rr_ HO54.out) hb);have n4_:=a0_ (Kd.R_below (rr_ HO57.out) hb);have n5_:=a0_ (Kd.R_below (rr_ HO60.out) hb);have n6_:=a0_ (blk_below (g:=gb1) (o:=.cells #[.slice A0_0 l0_0.length c0_0] 24 (0,0)) (bb_ BK1.out) hb);have n7_:=a0_ (blk_below (g:=gb17) (o:=.cells #[.int .i64 t13,.int .i64 t14,.int .i64 t15] 38 (0,0)) (bb_ BK17.out) hb);have n8_:=a0_ (blk_below (g:=gb21) (o:=.cells #[.slice Ao35 t44.length co35] 35 (0,0)) (bb_ BK21.out) hb);have n9_:=a0_ (blk_below (g:=gb32) (o:=.cells #[.int .i64 t28,.int .i64 t29,.int .i64 t30] 38 (0,0)) (bb_ BK32.out) hb);have n10_:=a0_ (blk_below (g:=gb65) (o:=.cells #[.int .i64 t61,.int .i64 t62,.int .i64 t63] 38 (0,0)) (bb_ BK65.out) hb);have n11_:=a0_ (below_step hb_ hb);clear HO_6 HO_11;clear HO_22000 HO54;clear HO57 HO60;clear BK1 BK17;clear BK21 BK32;clear BK65 HB;have HO_6:=n0_;have HO_11:=n1_;have HO_22000:=n2_;have HO54:=n3_;have HO57:=n4_;have HO60:=n5_;have BK1:=n6_;have BK17:=n7_;have BK21:=n8_;have BK32:=n9_;have BK65:=n10_;have HB:=n11_;clear n0_ n1_ n2_ n3_ n4_ n5_ n6_ n7_ n8_ n9_ n10_ n11_;(try clear hb);(try clear hb2);(try clear hk);(try clear hi)))
                go_meet
                case rel=>exact ⟨_,(true),(by first | rfl | (simp;done) | (simp [*];done)),H',⟨by have:=HJ18.out;have:=HJ85.out;first | omega | exact Nat.le_refl _⟩,⟨by (try simp only [hl22000_85]);(with_reducible repeat (first | apply Kd.R_alloc | apply Kd.R_drewN | apply Kd.R_drew));exact Kd.R_mono HO_11.out (fun _ hk=>⟨hk.1.1.1.2.1,⟨hk.1.1.1.2.2,hk.2⟩⟩)⟩,⟨by (try simp only [hl22000_85]);(with_reducible repeat (first | apply Kd.R_alloc | apply Kd.R_drewN | apply Kd.R_drew));exact Kd.R_mono HO_22000.out (fun _ hk=>trivial)⟩,⟨by (try simp only [hl22000_85]);(with_reducible repeat (first | refine blk_drewN ?_ _ | refine blk_drew ?_ | refine blk_alloc ?_ _));exact BK1.out⟩,⟨by (try simp only [hl22000_85]);(with_reducible repeat (first | refine blk_drewN ?_ _ | refine blk_drew ?_ | refine blk_alloc ?_ _));exact BK17.out⟩,⟨by (try simp only [hl22000_85]);(with_reducible repeat (first | refine blk_drewN ?_ _ | refine blk_drew ?_ | refine blk_alloc ?_ _));exact BK21.out⟩,⟨by (try simp only [hl22000_85]);(with_reducible repeat (first | refine blk_drewN ?_ _ | refine blk_drew ?_ | refine blk_alloc ?_ _));exact BK32.out⟩,⟨by (try simp only [hl22000_85]);(with_reducible repeat (first | refine blk_drewN ?_ _ | refine blk_drew ?_ | refine blk_alloc ?_ _));exact BK65.out⟩,⟨hb_⟩⟩
              ·replace c159:=Bool.eq_false_iff.mpr c159
               subst c159
               have H1 : (laws_FnExactPopExit.j2 kj85 t50 t49 true) = some r:=by rw [if_neg (show ¬ (false = true) by decide)] at H;exact H
               clear H
               have H:=H1
               clear H1
               have H':=a0_ H
               clear H
               obtain ⟨Ao188,co188,eo188⟩:=Kd.R_slice HO60.out
               subst eo188
               obtain ⟨Ao189,co189,eo189⟩:=Kd.R_slice HO_6.out
               subst eo189
               go_wp2_with (first | ((with_reducible refine gate_callee (f:=14) rfl ?_);refine goesL_ (some 122) rfl rfl Try.func14 (by kernel_rfl) rfl #[.slice Ao188 t58.length co188,.slice Ao189 t10.length co189] rfl lm_ ?_;(with_reducible refine (laws_eqExitS.calls kj85 _ _ t58 _ _ t10 false _ ?side1 ?side2 ?side3 ?side4 A158.out).mono ?_);(case side1=>refine (Kd.R_reads' (e:=38) (base:=w.heap.size) (ok:=fun k_=>((((((True ∧ some k_ ≠ (.slice Ao189 t10.length co189 : Value).ownBlock) ∧ some k_ ≠ (.slice Ao141 t25.length co141 : Value).ownBlock) ∧ some k_ ≠ (.slice Ao150 t55.length co150 : Value).ownBlock) ∧ k_ ≠ gb17) ∧ k_ ≠ gb32) ∧ k_ ≠ gb65)) (n:=t58.length) (c:=co188) ?_).2.2;exact (by (with_reducible repeat (first | apply Kd.R_alloc | apply Kd.R_drewN | apply Kd.R_drew));exact (Kd.R_mono (Kd.R_far (p:=⟨gb65,2,none⟩) (Kd.R_far (p:=⟨gb65,1,none⟩) (Kd.R_far (p:=⟨gb65,0,none⟩) (Kd.R_mono HO60.out (fun k_ hk=>(⟨hk,hk.2⟩ : _ ∧ k_ ≠ gb65))) (fun _ hk=>hk.2) (.int .i64 t61)) (fun _ hk=>hk.2) (.int .i64 t62)) (fun _ hk=>hk.2) (.int .i64 t63)) (fun _ h_=>h_.1))));(case side2=>exact (Kd.R_reads' HO60.out).2.1);(case side3=>refine (Kd.R_reads' (e:=38) (base:=w.heap.size) (ok:=fun k_=>((((some k_ ≠ (.slice Ao141 t25.length co141 : Value).ownBlock ∧ (k_ ≠ gb17 ∧ k_ ≠ gb32)) ∧ some k_ ≠ (.slice Ao150 t55.length co150 : Value).ownBlock) ∧ some k_ ≠ (.slice Ao188 t58.length co188 : Value).ownBlock) ∧ k_ ≠ gb65)) (n:=t10.length) (c:=co189) ?_).2.2;exact (by (with_reducible repeat (first | apply Kd.R_alloc | apply Kd.R_drewN | apply Kd.R_drew));exact (Kd.R_mono (Kd.R_far (p:=⟨gb65,2,none⟩) (Kd.R_far (p:=⟨gb65,1,none⟩) (Kd.R_far (p:=⟨gb65,0,none⟩) (Kd.R_mono HO_6.out (fun k_ hk=>(⟨hk,hk.2⟩ : _ ∧ k_ ≠ gb65))) (fun _ hk=>hk.2) (.int .i64 t61)) (fun _ hk=>hk.2) (.int .i64 t62)) (fun _ hk=>hk.2) (.int .i64 t63)) (fun _ h_=>h_.1))));(case side4=>exact (Kd.R_reads' HO_6.out).2.1);rintro e w190 ⟨rfl,hb⟩;refine ⟨_,rfl,?_⟩;have n0_:=a0_ (Kd.R_below (by (with_reducible repeat (first | apply Kd.R_alloc | apply Kd.R_drewN | apply Kd.R_drew));exact (Kd.R_mono (Kd.R_far (p:=⟨gb65,2,none⟩) (Kd.R_far (p:=⟨gb65,1,none⟩) (Kd.R_far (p:=⟨gb65,0,none⟩) (Kd.R_mono HO_6.out (fun k_ hk=>(⟨hk,hk.2⟩ : _ ∧ k_ ≠ gb65))) (fun _ hk=>hk.2) (.int .i64 t61)) (fun _ hk=>hk.2) (.int .i64 t62)) (fun _ hk=>hk.2) (.int .i64 t63)) (fun _ h_=>h_.1))) hb);have n1_:=a0_ (Kd.R_below (by (with_reducible repeat (first | apply Kd.R_alloc | apply Kd.R_drewN | apply Kd.R_drew));exact (Kd.R_mono (Kd.R_far (p:=⟨gb65,2,none⟩) (Kd.R_far (p:=⟨gb65,1,none⟩) (Kd.R_far (p:=⟨gb65,0,none⟩) (Kd.R_mono HO_11.out (fun k_ hk=>(⟨hk,hk.2⟩ : _ ∧ k_ ≠ gb65))) (fun _ hk=>hk.2) (.int .i64 t61)) (fun _ hk=>hk.2) (.int .i64 t62)) (fun _ hk=>hk.2) (.int .i64 t63)) (fun _ h_=>h_.1))) hb);have n2_:=a0_ (Kd.R_below (by (with_reducible repeat (first | apply Kd.R_alloc | apply Kd.R_drewN | apply Kd.R_drew));exact (Kd.R_mono (Kd.R_far (p:=⟨gb65,2,none⟩) (Kd.R_far (p:=⟨gb65,1,none⟩) (Kd.R_far (p:=⟨gb65,0,none⟩) (Kd.R_types HO_22000.out BK65.out (by decide)) (fun _ hk=>hk.2) (.int .i64 t61)) (fun _ hk=>hk.2) (.int .i64 t62)) (fun _ hk=>hk.2) (.int .i64 t63)) (fun _ h_=>h_.1))) hb);have n3_:=a0_ (Kd.R_below (by (with_reducible repeat (first | apply Kd.R_alloc | apply Kd.R_drewN | apply Kd.R_drew));exact (Kd.R_mono (Kd.R_far (p:=⟨gb65,2,none⟩) (Kd.R_far (p:=⟨gb65,1,none⟩) (Kd.R_far (p:=⟨gb65,0,none⟩) (Kd.R_types HO54.out BK65.out (by decide)) (fun _ hk=>hk.2) (.int .i64 t61)) (fun _ hk=>hk.2) (.int .i64 t62)) (fun _ hk=>hk.2) (.int .i64 t63)) (fun _ h_=>h_.1))) hb);have n4_:=a0_ (Kd.R_below (by (with_reducible repeat (first | apply Kd.R_alloc | apply Kd.R_drewN | apply Kd.R_drew));exact (Kd.R_mono (Kd.R_far (p:=⟨gb65,2,none⟩) (Kd.R_far (p:=⟨gb65,1,none⟩) (Kd.R_far (p:=⟨gb65,0,none⟩) (Kd.R_mono HO57.out (fun k_ hk=>(⟨hk,hk.2⟩ : _ ∧ k_ ≠ gb65))) (fun _ hk=>hk.2) (.int .i64 t61)) (fun _ hk=>hk.2) (.int .i64 t62)) (fun _ hk=>hk.2) (.int .i64 t63)) (fun _ h_=>h_.1))) hb);have n5_:=a0_ (Kd.R_below (by (with_reducible repeat (first | apply Kd.R_alloc | apply Kd.R_drewN | apply Kd.R_drew));exact (Kd.R_mono (Kd.R_far (p:=⟨gb65,2,none⟩) (Kd.R_far (p:=⟨gb65,1,none⟩) (Kd.R_far (p:=⟨gb65,0,none⟩) (Kd.R_mono HO60.out (fun k_ hk=>(⟨hk,hk.2⟩ : _ ∧ k_ ≠ gb65))) (fun _ hk=>hk.2) (.int .i64 t61)) (fun _ hk=>hk.2) (.int .i64 t62)) (fun _ hk=>hk.2) (.int .i64 t63)) (fun _ h_=>h_.1))) hb);have n6_:=a0_ (blk_below (g:=gb1) (o:=.cells #[.slice A0_0 l0_0.length c0_0] 24 (0,0)) (by (with_reducible repeat (first | refine blk_drewN ?_ _ | refine blk_drew ?_ | refine blk_alloc ?_ _));refine blk_far ?_ NB1_65.out _;(with_reducible repeat (first | refine blk_drewN ?_ _ | refine blk_drew ?_ | refine blk_alloc ?_ _));refine blk_far ?_ NB1_65.out _;(with_reducible repeat (first | refine blk_drewN ?_ _ | refine blk_drew ?_ | refine blk_alloc ?_ _));refine blk_far ?_ NB1_65.out _;(with_reducible repeat (first | refine blk_drewN ?_ _ | refine blk_drew ?_ | refine blk_alloc ?_ _));exact BK1.out) hb);have n7_:=a0_ (blk_below (g:=gb17) (o:=.cells #[.int .i64 t13,.int .i64 t14,.int .i64 t15] 38 (0,0)) (by (with_reducible repeat (first | refine blk_drewN ?_ _ | refine blk_drew ?_ | refine blk_alloc ?_ _));refine blk_far ?_ NB17_65.out _;(with_reducible repeat (first | refine blk_drewN ?_ _ | refine blk_drew ?_ | refine blk_alloc ?_ _));refine blk_far ?_ NB17_65.out _;(with_reducible repeat (first | refine blk_drewN ?_ _ | refine blk_drew ?_ | refine blk_alloc ?_ _));refine blk_far ?_ NB17_65.out _;(with_reducible repeat (first | refine blk_drewN ?_ _ | refine blk_drew ?_ | refine blk_alloc ?_ _));exact BK17.out) hb);have n8_:=a0_ (blk_below (g:=gb21) (o:=.cells #[.slice Ao35 t44.length co35] 35 (0,0)) (by (with_reducible repeat (first | refine blk_drewN ?_ _ | refine blk_drew ?_ | refine blk_alloc ?_ _));refine blk_far ?_ NB21_65.out _;(with_reducible repeat (first | refine blk_drewN ?_ _ | refine blk_drew ?_ | refine blk_alloc ?_ _));refine blk_far ?_ NB21_65.out _;(with_reducible repeat (first | refine blk_drewN ?_ _ | refine blk_drew ?_ | refine blk_alloc ?_ _));refine blk_far ?_ NB21_65.out _;(with_reducible repeat (first | refine blk_drewN ?_ _ | refine blk_drew ?_ | refine blk_alloc ?_ _));exact BK21.out) hb);have n9_:=a0_ (blk_below (g:=gb32) (o:=.cells #[.int .i64 t28,.int .i64 t29,.int .i64 t30] 38 (0,0)) (by (with_reducible repeat (first | refine blk_drewN ?_ _ | refine blk_drew ?_ | refine blk_alloc ?_ _));refine blk_far ?_ NB32_65.out _;(with_reducible repeat (first | refine blk_drewN ?_ _ | refine blk_drew ?_ | refine blk_alloc ?_ _));refine blk_far ?_ NB32_65.out _;(with_reducible repeat (first | refine blk_drewN ?_ _ | refine blk_drew ?_ | refine blk_alloc ?_ _));refine blk_far ?_ NB32_65.out _;(with_reducible repeat (first | refine blk_drewN ?_ _ | refine blk_drew ?_ | refine blk_alloc ?_ _));exact BK32.out) hb);have n10_:=a0_ (blk_below (g:=gb65) (o:=.cells #[.int .i64 t61,.int .i64 t62,.int .i64 t63] 38 (0,0)) (by (with_reducible repeat (first | refine blk_drewN ?_ _ | refine blk_drew ?_ | refine blk_alloc ?_ _));refine blk_put (cs:=#[.int .i64 t61,.int .i64 t62,.int .i64 0]) ?_ 2 _ rfl;(with_reducible repeat (first | refine blk_drewN ?_ _ | refine blk_drew ?_ | refine blk_alloc ?_ _));refine blk_put (cs:=#[.int .i64 t61,.int .i64 0,.int .i64 0]) ?_ 1 _ rfl;(with_reducible repeat (first | refine blk_drewN ?_ _ | refine blk_drew ?_ | refine blk_alloc ?_ _));refine blk_put (cs:=#[.int .i64 0,.int .i64 0,.int .i64 0]) ?_ 0 _ rfl;(with_reducible repeat (first | refine blk_drewN ?_ _ | refine blk_drew ?_ | refine blk_alloc ?_ _));exact BK65.out) hb);have n11_:=a0_ (below_step hb_ hb);clear HO_6 HO_11;clear HO_22000 HO54;clear HO57 HO60;clear BK1 BK17;clear BK21 BK32;clear BK65 HB;have HO_6:=n0_;have HO_11:=n1_;have HO_22000:=n2_;have HO54:=n3_;have HO57:=n4_;have HO60:=n5_;have BK1:=n6_;have BK17:=n7_;have BK21:=n8_;have BK32:=n9_;have BK65:=n10_;have HB:=n11_;clear n0_ n1_ n2_ n3_ n4_ n5_ n6_ n7_ n8_ n9_ n10_ n11_;(try clear hb);(try clear hb2);(try clear hk);(try clear hi)))
               go_meet
               case rel=>exact ⟨_,(true),(by first | rfl | (simp;done) | (simp [*];done)),H',⟨by have:=HJ18.out;have:=HJ85.out;first | omega | exact Nat.le_refl _⟩,⟨by (try simp only [hl22000_85]);(with_reducible repeat (first | apply Kd.R_alloc | apply Kd.R_drewN | apply Kd.R_drew));exact Kd.R_mono HO_11.out (fun _ hk=>⟨hk.1.1.1.2.1,⟨hk.1.1.1.2.2,hk.2⟩⟩)⟩,⟨by (try simp only [hl22000_85]);(with_reducible repeat (first | apply Kd.R_alloc | apply Kd.R_drewN | apply Kd.R_drew));exact Kd.R_mono HO_22000.out (fun _ hk=>trivial)⟩,⟨by (try simp only [hl22000_85]);(with_reducible repeat (first | refine blk_drewN ?_ _ | refine blk_drew ?_ | refine blk_alloc ?_ _));exact BK1.out⟩,⟨by (try simp only [hl22000_85]);(with_reducible repeat (first | refine blk_drewN ?_ _ | refine blk_drew ?_ | refine blk_alloc ?_ _));exact BK17.out⟩,⟨by (try simp only [hl22000_85]);(with_reducible repeat (first | refine blk_drewN ?_ _ | refine blk_drew ?_ | refine blk_alloc ?_ _));exact BK21.out⟩,⟨by (try simp only [hl22000_85]);(with_reducible repeat (first | refine blk_drewN ?_ _ | refine blk_drew ?_ | refine blk_alloc ?_ _));exact BK32.out⟩,⟨by (try simp only [hl22000_85]);(with_reducible repeat (first | refine blk_drewN ?_ _ | refine blk_drew ?_ | refine blk_alloc ?_ _));exact BK65.out⟩,⟨hb_⟩⟩
             case rest =>
              clear HC140
              try clear c1
              try clear c2
              try clear p2
              try clear c3
              try clear c4
              try clear c4b0
              try clear c5
              try clear c6
              try clear c7
              try clear c8
              try clear c9
              try clear c9b0
              try clear c10
              try clear c11
              try clear c12
              try clear c13
              try clear c14
              try clear c15
              try clear c16
              try clear c17
              try clear c18
              try clear c19
              try clear c20
              try clear c30
              try clear c36
              try clear c37
              try clear c44
              try clear c45
              try clear c46
              try clear c49
              try clear c51
              try clear c55
              try clear c56
              try clear c57
              try clear c59
              try clear c60
              try clear c66
              try clear c67
              try clear c68
              try clear c70
              try clear c71
              try clear c77
              try clear c80
              try clear c83
              try clear c94
              try clear c95
              try clear c96
              try clear c100
              try clear c100b0
              try clear c102
              try clear c104
              try clear c108
              try clear c109
              try clear c110
              try clear c112
              try clear c113
              try clear c119
              try clear c120
              try clear c121
              try clear c123
              try clear c124
              try clear c130
              try clear c133
              try clear c133b0
              try clear c136
              try clear c136b0
              try clear c136b1
              try clear c143
              try clear c144
              try clear c145
              try clear c153
              try clear c154
              try clear c155
              try clear c156
              try clear c159
              try clear c161
              try clear c165
              try clear c166
              try clear c167
              try clear c168
              try clear c170
              try clear c171
              try clear c172
              try clear c178
              try clear c179
              try clear c180
              try clear c181
              try clear c183
              try clear c184
              try clear c185
              try clear hcz111_0
              try clear hcz111_1
              try clear hcz111_2
              try clear hcz114_0
              try clear hcz114_1
              try clear hcz114_2
              try clear hcz11_0
              try clear hcz122_0
              try clear hcz122_1
              try clear hcz122_2
              try clear hcz125_0
              try clear hcz125_1
              try clear hcz125_2
              try clear hcz146_0
              try clear hcz157_0
              try clear hcz157_1
              try clear hcz157_2
              try clear hcz169_0
              try clear hcz169_1
              try clear hcz169_2
              try clear hcz173_0
              try clear hcz173_1
              try clear hcz173_2
              try clear hcz182_0
              try clear hcz182_1
              try clear hcz182_2
              try clear hcz186_0
              try clear hcz186_1
              try clear hcz186_2
              try clear hcz21_0
              try clear hcz23_0
              try clear hcz31_0
              try clear hcz31_1
              try clear hcz31_2
              try clear hcz32_0
              try clear hcz38_0
              try clear hcz40_0
              try clear hcz47_0
              try clear hcz47_1
              try clear hcz47_2
              try clear hcz58_0
              try clear hcz58_1
              try clear hcz58_2
              try clear hcz61_0
              try clear hcz61_1
              try clear hcz61_2
              try clear hcz69_0
              try clear hcz69_1
              try clear hcz69_2
              try clear hcz6_0
              try clear hcz72_0
              try clear hcz72_1
              try clear hcz72_2
              try clear hcz97_0
              try clear hfz111_0
              try clear hfz111_1
              try clear hfz111_2
              try clear hfz114_0
              try clear hfz114_1
              try clear hfz114_2
              try clear hfz11_0
              try clear hfz122_0
              try clear hfz122_1
              try clear hfz122_2
              try clear hfz125_0
              try clear hfz125_1
              try clear hfz125_2
              try clear hfz146_0
              try clear hfz157_0
              try clear hfz157_1
              try clear hfz157_2
              try clear hfz169_0
              try clear hfz169_1
              try clear hfz169_2
              try clear hfz173_0
              try clear hfz173_1
              try clear hfz173_2
              try clear hfz182_0
              try clear hfz182_1
              try clear hfz182_2
              try clear hfz186_0
              try clear hfz186_1
              try clear hfz186_2
              try clear hfz21_0
              try clear hfz23_0
              try clear hfz31_0
              try clear hfz31_1
              try clear hfz31_2
              try clear hfz32_0
              try clear hfz38_0
              try clear hfz40_0
              try clear hfz47_0
              try clear hfz47_1
              try clear hfz47_2
              try clear hfz58_0
              try clear hfz58_1
              try clear hfz58_2
              try clear hfz61_0
              try clear hfz61_1
              try clear hfz61_2
              try clear hfz69_0
              try clear hfz69_1
              try clear hfz69_2
              try clear hfz6_0
              try clear hfz72_0
              try clear hfz72_1
              try clear hfz72_2
              try clear hfz97_0
              try clear p2
              obtain ⟨kq,x134_139,rfl,HA,HJ139,HO_11,HO_22000,BK1,BK17,BK21,BK32,BK65,HB⟩:=hcut
              have hl11_139:=(Kd.R_reads' HO_11.out).1
              rw [hl11_139] at HO_11
              (try simp only [hl11_139])
              (try simp only [hl11_139] at BK1)
              (try simp only [hl11_139] at BK17)
              (try simp only [hl11_139] at BK21)
              (try simp only [hl11_139] at BK32)
              (try simp only [hl11_139] at BK65)
              (try simp only [hl11_139] at HO_22000)
              cases kq with
              | zero=>exact absurd HA.out (by simp [laws_FnExactPopExit.j2])
              | succ kj139 =>
               have H:=HA.out
               clear HA
               simp only [laws_FnExactPopExit.j2] at H
               by_cases c191 : x134_139 = true
               ·subst c191
                have H1 : (some false) = some r:=by rw [if_pos rfl] at H;exact H
                clear H
                have H:=H1
                clear H1
                obtain rfl:=Option.some.inj H
                go_wp2
                go_ret
                exact ⟨by first | rfl | (simp [errW_none,errW_some] <;> rfl) | (simp [*,errW_none,errW_some] <;> rfl),hb_⟩
               ·replace c191:=Bool.eq_false_iff.mpr c191
                subst c191
                have H1 : ((laws_heldExitS.f kj139 t50 1).bind fun t68=>(if t68 < 0 then (some false) else (if t68 = t49 then (some true) else (some false)))) = some r:=by rw [if_neg (show ¬ (false = true) by decide)] at H;exact H
                clear H
                have H:=H1
                clear H1
                replace H:=Option.bind_eq_some_iff.mp H
                obtain ⟨t68,A1920,H⟩:=H
                replace H : (if t68 < 0 then (some false) else (if t68 = t49 then (some true) else (some false))) = some r:=H
                have A192:=a0_ A1920
                clear A1920
                by_cases c193 : t68 < 0
                ·rw [if_pos c193] at H
                 have c193b0 : decide (t68 < 0) = true:=decide_eq_true c193
                 clear c193
                 obtain rfl:=Option.some.inj H
                 go_wp2_with (first | ((with_reducible refine gate_callee (f:=18) rfl ?_);refine goesL_ (some 137) rfl rfl Try.func18 (by kernel_rfl) rfl #[.slice Ao141 t50.length co141,.int .i64 1] rfl lm_ ?_;(with_reducible refine (laws_heldExitS.calls kj139 _ _ t50 1 t68 _ ?side1 ?side2 A192.out).mono ?_);(case side1=>repeat (first | exact (Kd.R_reads' HO_11.out).2.2 | (with_reducible refine Kd.C_alloc ?_ _) | (with_reducible refine Kd.C_drewN ?_ _) | (with_reducible refine Kd.C_drew ?_)));(case side2=>exact (Kd.R_reads' HO_11.out).2.1);rintro e w' ⟨rfl,⟨nd,rfl⟩⟩;refine ⟨_,rfl,?_⟩))
                 go_ret
                 exact ⟨by first | rfl | (simp [errW_none,errW_some] <;> rfl) | (simp [*,errW_none,errW_some] <;> rfl),hb_⟩
                ·rw [if_neg c193] at H
                 have c193b0 : decide (t68 < 0) = false:=decide_eq_false c193
                 clear c193
                 by_cases c194 : t68 = t49
                 ·rw [if_pos c194] at H
                  have c194b0 : (t68 == t49) = true:=beq_iff_eq.mpr c194
                  have c194b1 : (t68 != t49) = false:=bne_eq_false_iff_eq.mpr c194
                  clear c194
                  obtain rfl:=Option.some.inj H
                  go_wp2_with (first | ((with_reducible refine gate_callee (f:=18) rfl ?_);refine goesL_ (some 137) rfl rfl Try.func18 (by kernel_rfl) rfl #[.slice Ao141 t50.length co141,.int .i64 1] rfl lm_ ?_;(with_reducible refine (laws_heldExitS.calls kj139 _ _ t50 1 t68 _ ?side1 ?side2 A192.out).mono ?_);(case side1=>repeat (first | exact (Kd.R_reads' HO_11.out).2.2 | (with_reducible refine Kd.C_alloc ?_ _) | (with_reducible refine Kd.C_drewN ?_ _) | (with_reducible refine Kd.C_drew ?_)));(case side2=>exact (Kd.R_reads' HO_11.out).2.1);rintro e w' ⟨rfl,⟨nd,rfl⟩⟩;refine ⟨_,rfl,?_⟩))
                  go_ret
                  exact ⟨by first | rfl | (simp [errW_none,errW_some] <;> rfl) | (simp [*,errW_none,errW_some] <;> rfl),hb_⟩
                 ·rw [if_neg c194] at H
                  have c194b0 : (t68 == t49) = false:=beq_eq_false_iff_ne.mpr c194
                  have c194b1 : (t68 != t49) = true:=bne_iff_ne.mpr c194
                  obtain rfl:=Option.some.inj H
                  go_wp2_with (first | ((with_reducible refine gate_callee (f:=18) rfl ?_);refine goesL_ (some 137) rfl rfl Try.func18 (by kernel_rfl) rfl #[.slice Ao141 t50.length co141,.int .i64 1] rfl lm_ ?_;(with_reducible refine (laws_heldExitS.calls kj139 _ _ t50 1 t68 _ ?side1 ?side2 A192.out).mono ?_);(case side1=>repeat (first | exact (Kd.R_reads' HO_11.out).2.2 | (with_reducible refine Kd.C_alloc ?_ _) | (with_reducible refine Kd.C_drewN ?_ _) | (with_reducible refine Kd.C_drew ?_)));(case side2=>exact (Kd.R_reads' HO_11.out).2.1);rintro e w' ⟨rfl,⟨nd,rfl⟩⟩;refine ⟨_,rfl,?_⟩))
                  go_ret
                  exact ⟨by first | rfl | (simp [errW_none,errW_some] <;> rfl) | (simp [*,errW_none,errW_some] <;> rfl),hb_⟩
            ·rw [if_neg c136] at H
             have c136b0 : (t51 == t49) = false:=beq_eq_false_iff_ne.mpr c136
             have c136b1 : (t51 != t49) = true:=bne_iff_ne.mpr c136
             obtain rfl:=Option.some.inj H
             obtain ⟨Ao195,co195,eo195⟩:=Kd.R_slice HO_11.out
             subst eo195
             go_wp2_with (first | ((with_reducible refine gate_callee (f:=17) rfl ?_);refine goesL_ (some 102) rfl rfl Try.func17 (by kernel_rfl) rfl #[.slice Ao195 t25.length co195,.int .i64 1] rfl lm_ ?_;(with_reducible refine (laws_markExitS.calls kj85 (fun k_=>some k_ = (.slice Ao195 t25.length co195 : Value).ownBlock) (.slice Ao195 t25.length co195) t25 1 t49 t50 w _ ?side1 ?side2 A131.out).mono ?_);(case side1=>repeat (first | (with_reducible first | exact HB.out | apply below_alloc | apply pw_below_drewN | apply below_drew1 | refine below_set ?_ GE1.out | refine below_set ?_ GE17.out | refine below_set ?_ GE21.out | refine below_set ?_ GE32.out) | exact HB.out));(case side2=>exact Kd.R_tight rfl HO_11.out);rintro e w196 ⟨rfl,hy0,hb,hkp⟩;refine ⟨_,rfl,?_⟩;have n0_:=a0_ (Kd.R_mono (ok':=fun k_=>some k_ ≠ (.slice Ao195 t25.length co195 : Value).ownBlock ∧ k_ ≠ gb17 ∧ k_ ≠ gb32) (Kd.R_keptB (HO_6.out) hkp (fun k_ hk_ hs_=>(hk_.1) hs_)) (fun k_ hk_=>⟨hk_.1.1,hk_.1.2.1,hk_.1.2.2⟩));have n1_:=a0_ (Kd.R_reok rfl hy0 (fun k_ e_=>HO_11.out.1 k_ e_));have n2_:=a0_ (Kd.R_mono (ok':=fun k_=>True) (Kd.R_keptB ((Kd.R_apart' HO_22000.out (Kd.R_typed HO_11.out) (by decide))) hkp (fun k_ hk_ hs_=>(hk_.2) hs_)) (fun k_ hk_=>trivial));have n3_:=a0_ (blk_kept (bb_ BK1.out) hkp (fun hs_=>(fun e_=>(Kd.R_ne HO_11.out BK1.out (by decide)) e_) hs_));have n4_:=a0_ (blk_kept (bb_ BK17.out) hkp (fun hs_=>(fun e_=>(Kd.R_away HO_11.out (fun _ hk=>hk.2.1)) e_) hs_));have n5_:=a0_ (blk_kept (bb_ BK21.out) hkp (fun hs_=>(fun e_=>(Kd.R_ne HO_11.out BK21.out (by decide)) e_) hs_));have n6_:=a0_ (blk_kept (bb_ BK32.out) hkp (fun hs_=>(fun e_=>(Kd.R_away HO_11.out (fun _ hk=>hk.2.2)) e_) hs_));have n7_:=a0_ (hb);clear HO_6 HO_11;clear HO_22000 BK1;clear BK17 BK21;clear BK32 HB;have HO_6:=n0_;have HO_11:=n1_;have HO_22000:=n2_;have BK1:=n3_;have BK17:=n4_;have BK21:=n5_;have BK32:=n6_;have HB:=n7_;clear n0_ n1_ n2_ n3_ n4_ n5_ n6_ n7_;(try clear hb);(try clear hkp);(try clear hy0)) | ((with_reducible refine gate_callee (f:=18) rfl ?_);refine goesL_ (some 105) rfl rfl Try.func18 (by kernel_rfl) rfl #[.slice Ao195 t50.length co195,.int .i64 1] rfl (by (try simp only [List.map_toArray,List.map_cons,List.map_nil]);first | done | (rw [show t50.length = t25.length from (Kd.R_reads' HO_11.out).1.symm] <;> rfl) | rfl | (simp only [List.length_drop,List.length_take];rfl)) ?_;(with_reducible refine (laws_heldExitS.calls kj85 _ _ t50 1 t51 _ ?side1 ?side2 A132.out).mono ?_);(case side1=>repeat (first | exact (Kd.R_reads' HO_11.out).2.2 | (with_reducible refine Kd.C_alloc ?_ _) | (with_reducible refine Kd.C_drewN ?_ _) | (with_reducible refine Kd.C_drew ?_)));(case side2=>rw [show t50.length = t25.length from (Kd.R_reads' HO_11.out).1.symm];exact (Kd.R_reads' HO_11.out).2.1);rintro e w' ⟨rfl,⟨nd,rfl⟩⟩;refine ⟨_,rfl,?_⟩))
             go_ret
             exact ⟨by first | rfl | (simp [errW_none,errW_some] <;> rfl) | (simp [*,errW_none,errW_some] <;> rfl),hb_⟩
       ·replace c83:=Bool.eq_false_iff.mpr c83
        subst c83
        have H1 : (some false) = some r:=by rw [if_neg (show ¬ (false = true) by decide)] at H;exact H
        clear H
        have H:=H1
        clear H1
        obtain rfl:=Option.some.inj H
        try go_wp2
        have n0_:=a0_ (Kd.R_drew HO_6.out)
        have n1_:=a0_ (Kd.R_drew HO_10.out)
        have n2_:=a0_ (Kd.R_drew HO_11.out)
        have n3_:=a0_ (Kd.R_drew HO_22000.out)
        have n4_:=a0_ (blk_drew BK1.out)
        have n5_:=a0_ (blk_drew BK17.out)
        have n6_:=a0_ (blk_drew BK21.out)
        have n7_:=a0_ (blk_drew BK32.out)
        have n8_:=a0_ (below_drew1 HB.out)
        clear HO_6
        clear HO_10
        clear HO_11
        clear HO_22000
        clear BK1
        clear BK17
        clear BK21
        clear BK32
        clear HB
        have HO_6:=n0_
        have HO_10:=n1_
        have HO_11:=n2_
        have HO_22000:=n3_
        have BK1:=n4_
        have BK17:=n5_
        have BK21:=n6_
        have BK32:=n7_
        have HB:=n8_
        clear n0_ n1_ n2_ n3_ n4_ n5_ n6_ n7_ n8_
        refine start_ (n:=5) (S:=fun w'=>w'.cell? ⟨gb21,0,none⟩ = some (.slice Ao35 t18.length co35) ∧ w'.cell? ⟨gb1,0,none⟩ = some (.slice A0_0 l0_0.length c0_0)) (ds:=[]) #[false,false,false,false,false] (by kernel_rfl) rfl rfl ⟨(blk_cell BK21.out 0).trans rfl,(blk_cell BK1.out 0).trans rfl⟩ (fun hHeld=>?_)
        generalize wc.drew = w197 at HO_6 HO_10 HO_11 HO_22000 BK1 BK17 BK21 BK32 HB hHeld ⊢
        refine take_ (i:=0) (N:=some 65) (v:=?_) (a':=?_) #[true,false,false,false,false] rfl rfl (by kernel_rfl) (fun _ _ _ h=>h) (Or.inl ⟨by rfl,?_⟩) hHeld ?_ ?_
        rotate_left
        ·rintro w' ⟨s0,s1⟩
         go_simp
         with_reducible rfl
        rotate_left
        ·simp only [Act.put,List.setIfInBounds_toArray,List.set_cons_zero,List.set_cons_succ,i64_w,i32_w]
         rfl
        refine take_ (i:=1) (N:=some 66) (v:=?_) (a':=?_) #[true,true,false,false,false] rfl rfl (by kernel_rfl) (fun _ _ _ h=>h) (Or.inl ⟨by rfl,?_⟩) hHeld ?_ ?_
        rotate_left
        ·rintro w' ⟨s0,s1⟩
         go_simp
         with_reducible rfl
        rotate_left
        ·simp only [Act.put,List.setIfInBounds_toArray,List.set_cons_zero,List.set_cons_succ,i64_w,i32_w]
         rfl
        refine one_ (i:=2) (N:=some 67) #[true,true,true,false,false] rfl rfl (by kernel_rfl) (by decide) (fun K hK=>?_)
        refine goes_ Try.func10 (by kernel_rfl) rfl #[.agg #[.slice A0_0 l0_0.length c0_0]] (by rfl) rfl rfl lm_ ?_
        with_reducible refine (laws_toTree.calls kj18 _ _ l0_0 t35 _ ?side1 ?side2 A78.out).mono ?_
        (case side1=>exact cc_ (Kd.C_below HR0_0.out HB.out))
        (case side2=>exact HC0_0.out)
        rintro e w198 ⟨v36,rfl,ho0,hb⟩
        refine ⟨_,rfl,?_⟩
        have n0_:=a0_ (Kd.R_below (rr_ HO_6.out) hb)
        have n1_:=a0_ (Kd.R_below (rr_ HO_10.out) hb)
        have n2_:=a0_ (Kd.R_below (rr_ HO_11.out) hb)
        have n3_:=a0_ (Kd.R_elder' (rr_ HO_22000.out) (Kd.R_base ho0) hb)
        have n4_:=a0_ (Kd.R_lower (Kd.R_new' ho0 (Kd.R_lt (rr_ HO_22000.out))) (below_size hb_))
        have n5_:=a0_ (blk_below (g:=gb1) (o:=.cells #[.slice A0_0 l0_0.length c0_0] 24 (0,0)) (bb_ BK1.out) hb)
        have n6_:=a0_ (blk_below (g:=gb17) (o:=.cells #[.int .i64 t13,.int .i64 t14,.int .i64 t15] 38 (0,0)) (bb_ BK17.out) hb)
        have n7_:=a0_ (blk_below (g:=gb21) (o:=.cells #[.slice Ao35 t18.length co35] 35 (0,0)) (bb_ BK21.out) hb)
        have n8_:=a0_ (blk_below (g:=gb32) (o:=.cells #[.int .i64 t28,.int .i64 t29,.int .i64 t30] 38 (0,0)) (bb_ BK32.out) hb)
        have n9_:=a0_ (below_step hb_ hb)
        clear HO_6
        clear HO_10
        clear HO_11
        clear HO_22000
        clear BK1
        clear BK17
        clear BK21
        clear BK32
        clear HB
        have HO_6:=n0_
        have HO_10:=n1_
        have HO_11:=n2_
        have HO_22000:=n3_
        have HO37:=n4_
        have BK1:=n5_
        have BK17:=n6_
        have BK21:=n7_
        have BK32:=n8_
        have HB:=n9_
        clear n0_ n1_ n2_ n3_ n4_ n5_ n6_ n7_ n8_ n9_
        (try clear hb)
        (try clear hb2)
        (try clear hk)
        (try clear hi)
        (try clear ho0)
        obtain ⟨Ao199,co199,eo199⟩:=Kd.R_slice HO37.out
        (first | subst eo199 | (injection eo199 with f1_ f2_ f3_;have f4_:=f1_.symm;have f5_:=f3_.symm;clear f1_ f2_ f3_;subst f4_;subst f5_))
        refine hK.out _ _ ⟨(blk_cell BK21.out 0).trans rfl,(blk_cell BK1.out 0).trans rfl⟩ (fun hHeld=>?_)
        clear hK K
        refine norm_ (a':=?_) ?_ ?_
        rotate_left
        ·show Act.put _ (some 67) _ = _
         simp only [Act.put,List.setIfInBounds_toArray,List.set_cons_zero,List.set_cons_succ,i64_w,i32_w]
         rfl
        refine one_ (i:=3) (N:=some 68) #[true,true,true,true,false] rfl rfl (by kernel_rfl) (by decide) (fun K hK=>?_)
        refine goes_ Try.func15 (by kernel_rfl) rfl #[.agg #[.slice Ao35 t18.length co35],.agg #[.slice Ao199 t35.length co199]] (by rfl) rfl rfl lm_ ?_
        with_reducible refine (laws_eqTree.calls kj18 _ _ t18 _ _ t35 true _ ?side1 ?side2 ?side3 ?side4 A79.out).mono ?_
        (case side1=>repeat (first | exact (Kd.R_reads' HO_22000.out).2.2 | (with_reducible refine Kd.C_alloc ?_ _) | (with_reducible refine Kd.C_drewN ?_ _) | (with_reducible refine Kd.C_drew ?_)))
        (case side2=>exact (Kd.R_reads' HO_22000.out).2.1)
        (case side3=>repeat (first | exact (Kd.R_reads' HO37.out).2.2 | (with_reducible refine Kd.C_alloc ?_ _) | (with_reducible refine Kd.C_drewN ?_ _) | (with_reducible refine Kd.C_drew ?_)))
        (case side4=>exact (Kd.R_reads' HO37.out).2.1)
        rintro e w200 ⟨rfl,hb⟩
        refine ⟨_,rfl,?_⟩
        have n0_:=a0_ (Kd.R_below (rr_ HO_6.out) hb)
        have n1_:=a0_ (Kd.R_below (rr_ HO_10.out) hb)
        have n2_:=a0_ (Kd.R_below (rr_ HO_11.out) hb)
        have n3_:=a0_ (Kd.R_below (rr_ HO_22000.out) hb)
        have n4_:=a0_ (Kd.R_below (rr_ HO37.out) hb)
        have n5_:=a0_ (blk_below (g:=gb1) (o:=.cells #[.slice A0_0 l0_0.length c0_0] 24 (0,0)) (bb_ BK1.out) hb)
        have n6_:=a0_ (blk_below (g:=gb17) (o:=.cells #[.int .i64 t13,.int .i64 t14,.int .i64 t15] 38 (0,0)) (bb_ BK17.out) hb)
        have n7_:=a0_ (blk_below (g:=gb21) (o:=.cells #[.slice Ao35 t18.length co35] 35 (0,0)) (bb_ BK21.out) hb)
        have n8_:=a0_ (blk_below (g:=gb32) (o:=.cells #[.int .i64 t28,.int .i64 t29,.int .i64 t30] 38 (0,0)) (bb_ BK32.out) hb)
        have n9_:=a0_ (below_step hb_ hb)
        clear HO_6
        clear HO_10
        clear HO_11
        clear HO_22000
        clear HO37
        clear BK1
        clear BK17
        clear BK21
        clear BK32
        clear HB
        have HO_6:=n0_
        have HO_10:=n1_
        have HO_11:=n2_
        have HO_22000:=n3_
        have HO37:=n4_
        have BK1:=n5_
        have BK17:=n6_
        have BK21:=n7_
        have BK32:=n8_
        have HB:=n9_
        clear n0_ n1_ n2_ n3_ n4_ n5_ n6_ n7_ n8_ n9_
        (try clear hb)
        (try clear hb2)
        (try clear hk)
        (try clear hi)
        refine hK.out _ _ ⟨(blk_cell BK21.out 0).trans rfl,(blk_cell BK1.out 0).trans rfl⟩ (fun hHeld=>?_)
        clear hK K
        refine norm_ (a':=?_) ?_ ?_
        rotate_left
        ·show Act.put _ (some 68) _ = _
         simp only [Act.put,List.setIfInBounds_toArray,List.set_cons_zero,List.set_cons_succ,i64_w,i32_w]
         rfl
        refine pure_ (i:=4) (N:=some 69) (v:=?_) (a':=?_) #[true,true,true,true,true] rfl rfl (by kernel_rfl) (fun _ _ _ h=>h) (Or.inl ⟨by rfl,?_⟩) ?_ ?_
        rotate_left
        ·intro w'
         go_simp
         with_reducible rfl
        rotate_left
        ·simp only [Act.put,List.setIfInBounds_toArray,List.set_cons_zero,List.set_cons_succ,i64_w,i32_w]
         rfl
        refine done_ (by kernel_rfl) ?_
        try go_wp2_with (first | ((with_reducible refine gate_callee (f:=11) rfl ?_);refine goesL_ (some 72) rfl rfl Try.func11 (by kernel_rfl) rfl #[.slice A1 l1.length c1] rfl lm_ ?_;(with_reducible refine (laws_toExitS.calls kj18 _ _ l1 t39 _ ?side1 ?side2 A81.out).mono ?_);(case side1=>exact cc_ (Kd.C_below HR1.out HB.out));(case side2=>exact HC1.out);rintro e w201 ⟨v40,rfl,ho0,hb⟩;refine ⟨_,rfl,?_⟩;have n0_:=a0_ (Kd.R_elder' (rr_ HO_6.out) (Kd.R_base ho0) hb);have n1_:=a0_ (Kd.R_elder' (rr_ HO_10.out) (Kd.R_base ho0) hb);have n2_:=a0_ (Kd.R_elder' (rr_ HO_11.out) (Kd.R_base ho0) hb);have n3_:=a0_ (Kd.R_below (rr_ HO_22000.out) hb);have n4_:=a0_ (Kd.R_below (rr_ HO37.out) hb);have n5_:=a0_ (Kd.R_lower (Kd.R_newB (Kd.R_newB (Kd.R_new' (Kd.R_new' (Kd.R_new' ho0 (Kd.R_lt (rr_ HO_6.out))) (Kd.R_lt (rr_ HO_10.out))) (Kd.R_lt (rr_ HO_11.out))) (g:=gb17) (o:=.cells #[.int .i64 t13,.int .i64 t14,.int .i64 t15] 38 (0,0)) (bb_ BK17.out)) (g:=gb32) (o:=.cells #[.int .i64 t28,.int .i64 t29,.int .i64 t30] 38 (0,0)) (bb_ BK32.out)) (below_size hb_));have n6_:=a0_ (blk_below (g:=gb1) (o:=.cells #[.slice A0_0 l0_0.length c0_0] 24 (0,0)) (bb_ BK1.out) hb);have n7_:=a0_ (blk_below (g:=gb17) (o:=.cells #[.int .i64 t13,.int .i64 t14,.int .i64 t15] 38 (0,0)) (bb_ BK17.out) hb);have n8_:=a0_ (blk_below (g:=gb21) (o:=.cells #[.slice Ao35 t18.length co35] 35 (0,0)) (bb_ BK21.out) hb);have n9_:=a0_ (blk_below (g:=gb32) (o:=.cells #[.int .i64 t28,.int .i64 t29,.int .i64 t30] 38 (0,0)) (bb_ BK32.out) hb);have n10_:=a0_ (below_step hb_ hb);clear HO_6 HO_10;clear HO_11 HO_22000;clear HO37 BK1;clear BK17 BK21;clear BK32 HB;have HO_6:=n0_;have HO_10:=n1_;have HO_11:=n2_;have HO_22000:=n3_;have HO37:=n4_;have HO41:=n5_;have BK1:=n6_;have BK17:=n7_;have BK21:=n8_;have BK32:=n9_;have HB:=n10_;clear n0_ n1_ n2_ n3_ n4_ n5_ n6_ n7_ n8_ n9_ n10_;(try clear hb);(try clear hb2);(try clear hk);(try clear hi);(try clear ho0);obtain ⟨Ao202,co202,eo202⟩:=Kd.R_slice HO41.out;subst eo202) | ((with_reducible refine gate_callee (f:=14) rfl ?_);refine goesL_ (some 73) rfl rfl Try.func14 (by kernel_rfl) rfl #[.slice Ao41 t22.length co41,.slice Ao202 t39.length co202] rfl lm_ ?_;(with_reducible refine (laws_eqExitS.calls kj18 _ _ t22 _ _ t39 false _ ?side1 ?side2 ?side3 ?side4 A82.out).mono ?_);(case side1=>repeat (first | exact (Kd.R_reads' HO_10.out).2.2 | (with_reducible refine Kd.C_alloc ?_ _) | (with_reducible refine Kd.C_drewN ?_ _) | (with_reducible refine Kd.C_drew ?_)));(case side2=>exact (Kd.R_reads' HO_10.out).2.1);(case side3=>repeat (first | exact (Kd.R_reads' HO41.out).2.2 | (with_reducible refine Kd.C_alloc ?_ _) | (with_reducible refine Kd.C_drewN ?_ _) | (with_reducible refine Kd.C_drew ?_)));(case side4=>exact (Kd.R_reads' HO41.out).2.1);rintro e w203 ⟨rfl,hb⟩;refine ⟨_,rfl,?_⟩;have n0_:=a0_ (Kd.R_below (rr_ HO_6.out) hb);have n1_:=a0_ (Kd.R_below (rr_ HO_10.out) hb);have n2_:=a0_ (Kd.R_below (rr_ HO_11.out) hb);have n3_:=a0_ (Kd.R_below (rr_ HO_22000.out) hb);have n4_:=a0_ (Kd.R_below (rr_ HO37.out) hb);have n5_:=a0_ (Kd.R_below (rr_ HO41.out) hb);have n6_:=a0_ (blk_below (g:=gb1) (o:=.cells #[.slice A0_0 l0_0.length c0_0] 24 (0,0)) (bb_ BK1.out) hb);have n7_:=a0_ (blk_below (g:=gb17) (o:=.cells #[.int .i64 t13,.int .i64 t14,.int .i64 t15] 38 (0,0)) (bb_ BK17.out) hb);have n8_:=a0_ (blk_below (g:=gb21) (o:=.cells #[.slice Ao35 t18.length co35] 35 (0,0)) (bb_ BK21.out) hb);have n9_:=a0_ (blk_below (g:=gb32) (o:=.cells #[.int .i64 t28,.int .i64 t29,.int .i64 t30] 38 (0,0)) (bb_ BK32.out) hb);have n10_:=a0_ (below_step hb_ hb);clear HO_6 HO_10;clear HO_11 HO_22000;clear HO37 HO41;clear BK1 BK17;clear BK21 BK32 HB;have HO_6:=n0_;have HO_10:=n1_;have HO_11:=n2_;have HO_22000:=n3_;have HO37:=n4_;have HO41:=n5_;have BK1:=n6_;have BK17:=n7_;have BK21:=n8_;have BK32:=n9_;have HB:=n10_;clear n0_ n1_ n2_ n3_ n4_ n5_ n6_ n7_ n8_ n9_ n10_;(try clear hb);(try clear hb2);(try clear hk);(try clear hi)))
        go_ret
        exact ⟨by first | rfl | (simp [errW_none,errW_some] <;> rfl) | (simp [*,errW_none,errW_some] <;> rfl),hb_⟩
      ·replace c80:=Bool.eq_false_iff.mpr c80
       subst c80
       have H1 : (some false) = some r:=by rw [if_neg (show ¬ (false = true) by decide)] at H;exact H
       clear H
       have H:=H1
       clear H1
       obtain rfl:=Option.some.inj H
       try go_wp2
       have n0_:=a0_ (Kd.R_drew HO_6.out)
       have n1_:=a0_ (Kd.R_drew HO_10.out)
       have n2_:=a0_ (Kd.R_drew HO_11.out)
       have n3_:=a0_ (Kd.R_drew HO_22000.out)
       have n4_:=a0_ (blk_drew BK1.out)
       have n5_:=a0_ (blk_drew BK17.out)
       have n6_:=a0_ (blk_drew BK21.out)
       have n7_:=a0_ (blk_drew BK32.out)
       have n8_:=a0_ (below_drew1 HB.out)
       clear HO_6
       clear HO_10
       clear HO_11
       clear HO_22000
       clear BK1
       clear BK17
       clear BK21
       clear BK32
       clear HB
       have HO_6:=n0_
       have HO_10:=n1_
       have HO_11:=n2_
       have HO_22000:=n3_
       have BK1:=n4_
       have BK17:=n5_
       have BK21:=n6_
       have BK32:=n7_
       have HB:=n8_
       clear n0_ n1_ n2_ n3_ n4_ n5_ n6_ n7_ n8_
       refine start_ (n:=5) (S:=fun w'=>w'.cell? ⟨gb21,0,none⟩ = some (.slice Ao35 t18.length co35) ∧ w'.cell? ⟨gb1,0,none⟩ = some (.slice A0_0 l0_0.length c0_0)) (ds:=[]) #[false,false,false,false,false] (by kernel_rfl) rfl rfl ⟨(blk_cell BK21.out 0).trans rfl,(blk_cell BK1.out 0).trans rfl⟩ (fun hHeld=>?_)
       generalize wc.drew = w204 at HO_6 HO_10 HO_11 HO_22000 BK1 BK17 BK21 BK32 HB hHeld ⊢
       refine take_ (i:=0) (N:=some 65) (v:=?_) (a':=?_) #[true,false,false,false,false] rfl rfl (by kernel_rfl) (fun _ _ _ h=>h) (Or.inl ⟨by rfl,?_⟩) hHeld ?_ ?_
       rotate_left
       ·rintro w' ⟨s0,s1⟩
        go_simp
        with_reducible rfl
       rotate_left
       ·simp only [Act.put,List.setIfInBounds_toArray,List.set_cons_zero,List.set_cons_succ,i64_w,i32_w]
        rfl
       refine take_ (i:=1) (N:=some 66) (v:=?_) (a':=?_) #[true,true,false,false,false] rfl rfl (by kernel_rfl) (fun _ _ _ h=>h) (Or.inl ⟨by rfl,?_⟩) hHeld ?_ ?_
       rotate_left
       ·rintro w' ⟨s0,s1⟩
        go_simp
        with_reducible rfl
       rotate_left
       ·simp only [Act.put,List.setIfInBounds_toArray,List.set_cons_zero,List.set_cons_succ,i64_w,i32_w]
        rfl
       refine one_ (i:=2) (N:=some 67) #[true,true,true,false,false] rfl rfl (by kernel_rfl) (by decide) (fun K hK=>?_)
       refine goes_ Try.func10 (by kernel_rfl) rfl #[.agg #[.slice A0_0 l0_0.length c0_0]] (by rfl) rfl rfl lm_ ?_
       with_reducible refine (laws_toTree.calls kj18 _ _ l0_0 t35 _ ?side1 ?side2 A78.out).mono ?_
       (case side1=>exact cc_ (Kd.C_below HR0_0.out HB.out))
       (case side2=>exact HC0_0.out)
       rintro e w205 ⟨v36,rfl,ho0,hb⟩
       refine ⟨_,rfl,?_⟩
       have n0_:=a0_ (Kd.R_below (rr_ HO_6.out) hb)
       have n1_:=a0_ (Kd.R_below (rr_ HO_10.out) hb)
       have n2_:=a0_ (Kd.R_below (rr_ HO_11.out) hb)
       have n3_:=a0_ (Kd.R_elder' (rr_ HO_22000.out) (Kd.R_base ho0) hb)
       have n4_:=a0_ (Kd.R_lower (Kd.R_new' ho0 (Kd.R_lt (rr_ HO_22000.out))) (below_size hb_))
       have n5_:=a0_ (blk_below (g:=gb1) (o:=.cells #[.slice A0_0 l0_0.length c0_0] 24 (0,0)) (bb_ BK1.out) hb)
       have n6_:=a0_ (blk_below (g:=gb17) (o:=.cells #[.int .i64 t13,.int .i64 t14,.int .i64 t15] 38 (0,0)) (bb_ BK17.out) hb)
       have n7_:=a0_ (blk_below (g:=gb21) (o:=.cells #[.slice Ao35 t18.length co35] 35 (0,0)) (bb_ BK21.out) hb)
       have n8_:=a0_ (blk_below (g:=gb32) (o:=.cells #[.int .i64 t28,.int .i64 t29,.int .i64 t30] 38 (0,0)) (bb_ BK32.out) hb)
       have n9_:=a0_ (below_step hb_ hb)
       clear HO_6
       clear HO_10
       clear HO_11
       clear HO_22000
       clear BK1
       clear BK17
       clear BK21
       clear BK32
       clear HB
       have HO_6:=n0_
       have HO_10:=n1_
       have HO_11:=n2_
       have HO_22000:=n3_
       have HO37:=n4_
       have BK1:=n5_
       have BK17:=n6_
       have BK21:=n7_
       have BK32:=n8_
       have HB:=n9_
       clear n0_ n1_ n2_ n3_ n4_ n5_ n6_ n7_ n8_ n9_
       (try clear hb)
       (try clear hb2)
       (try clear hk)
       (try clear hi)
       (try clear ho0)
       obtain ⟨Ao206,co206,eo206⟩:=Kd.R_slice HO37.out
       (first | subst eo206 | (injection eo206 with f1_ f2_ f3_;have f4_:=f1_.symm;have f5_:=f3_.symm;clear f1_ f2_ f3_;subst f4_;subst f5_))
       refine hK.out _ _ ⟨(blk_cell BK21.out 0).trans rfl,(blk_cell BK1.out 0).trans rfl⟩ (fun hHeld=>?_)
       clear hK K
       refine norm_ (a':=?_) ?_ ?_
       rotate_left
       ·show Act.put _ (some 67) _ = _
        simp only [Act.put,List.setIfInBounds_toArray,List.set_cons_zero,List.set_cons_succ,i64_w,i32_w]
        rfl
       refine one_ (i:=3) (N:=some 68) #[true,true,true,true,false] rfl rfl (by kernel_rfl) (by decide) (fun K hK=>?_)
       refine goes_ Try.func15 (by kernel_rfl) rfl #[.agg #[.slice Ao35 t18.length co35],.agg #[.slice Ao206 t35.length co206]] (by rfl) rfl rfl lm_ ?_
       with_reducible refine (laws_eqTree.calls kj18 _ _ t18 _ _ t35 false _ ?side1 ?side2 ?side3 ?side4 A79.out).mono ?_
       (case side1=>repeat (first | exact (Kd.R_reads' HO_22000.out).2.2 | (with_reducible refine Kd.C_alloc ?_ _) | (with_reducible refine Kd.C_drewN ?_ _) | (with_reducible refine Kd.C_drew ?_)))
       (case side2=>exact (Kd.R_reads' HO_22000.out).2.1)
       (case side3=>repeat (first | exact (Kd.R_reads' HO37.out).2.2 | (with_reducible refine Kd.C_alloc ?_ _) | (with_reducible refine Kd.C_drewN ?_ _) | (with_reducible refine Kd.C_drew ?_)))
       (case side4=>exact (Kd.R_reads' HO37.out).2.1)
       rintro e w207 ⟨rfl,hb⟩
       refine ⟨_,rfl,?_⟩
       have n0_:=a0_ (Kd.R_below (rr_ HO_6.out) hb)
       have n1_:=a0_ (Kd.R_below (rr_ HO_10.out) hb)
       have n2_:=a0_ (Kd.R_below (rr_ HO_11.out) hb)
       have n3_:=a0_ (Kd.R_below (rr_ HO_22000.out) hb)
       have n4_:=a0_ (Kd.R_below (rr_ HO37.out) hb)
       have n5_:=a0_ (blk_below (g:=gb1) (o:=.cells #[.slice A0_0 l0_0.length c0_0] 24 (0,0)) (bb_ BK1.out) hb)
       have n6_:=a0_ (blk_below (g:=gb17) (o:=.cells #[.int .i64 t13,.int .i64 t14,.int .i64 t15] 38 (0,0)) (bb_ BK17.out) hb)
       have n7_:=a0_ (blk_below (g:=gb21) (o:=.cells #[.slice Ao35 t18.length co35] 35 (0,0)) (bb_ BK21.out) hb)
       have n8_:=a0_ (blk_below (g:=gb32) (o:=.cells #[.int .i64 t28,.int .i64 t29,.int .i64 t30] 38 (0,0)) (bb_ BK32.out) hb)
       have n9_:=a0_ (below_step hb_ hb)
       clear HO_6
       clear HO_10
       clear HO_11
       clear HO_22000
       clear HO37
       clear BK1
       clear BK17
       clear BK21
       clear BK32
       clear HB
       have HO_6:=n0_
       have HO_10:=n1_
       have HO_11:=n2_
       have HO_22000:=n3_
       have HO37:=n4_
       have BK1:=n5_
       have BK17:=n6_
       have BK21:=n7_
       have BK32:=n8_
       have HB:=n9_
       clear n0_ n1_ n2_ n3_ n4_ n5_ n6_ n7_ n8_ n9_
       (try clear hb)
       (try clear hb2)
       (try clear hk)
       (try clear hi)
       refine hK.out _ _ ⟨(blk_cell BK21.out 0).trans rfl,(blk_cell BK1.out 0).trans rfl⟩ (fun hHeld=>?_)
       clear hK K
       refine norm_ (a':=?_) ?_ ?_
       rotate_left
       ·show Act.put _ (some 68) _ = _
        simp only [Act.put,List.setIfInBounds_toArray,List.set_cons_zero,List.set_cons_succ,i64_w,i32_w]
        rfl
       refine pure_ (i:=4) (N:=some 69) (v:=?_) (a':=?_) #[true,true,true,true,true] rfl rfl (by kernel_rfl) (fun _ _ _ h=>h) (Or.inl ⟨by rfl,?_⟩) ?_ ?_
       rotate_left
       ·intro w'
        go_simp
        with_reducible rfl
       rotate_left
       ·simp only [Act.put,List.setIfInBounds_toArray,List.set_cons_zero,List.set_cons_succ,i64_w,i32_w]
        rfl
       refine done_ (by kernel_rfl) ?_
       try go_wp2
       go_ret
       exact ⟨by first | rfl | (simp [errW_none,errW_some] <;> rfl) | (simp [*,errW_none,errW_some] <;> rfl),hb_⟩
end Go.Proofs.Ytjcodcimodnbjaa.P
namespace Go.Proofs.Ytjcodcimodnbjaa.Pure
open Go.RowKit Go.Proofs.Ytjcodcimodnbjaa.P
set_option linter.unusedVariables false
theorem FnExactPopExit (l0_0 : List S73) (l1 : List S27) (G0_0 : (l0_0.length ≤ maxLen ∧ ∀ x ∈ l0_0,(x.f0.size ≤ maxLen ∧ (Lit.int .i64 x.f1).wf = true))) (g1 : (l1.length ≤ maxLen ∧ ∀ x ∈ l1,((Lit.int .i64 x.f0).wf = true ∧ (Lit.int .i64 x.f1).wf = true ∧ (Lit.int .i64 x.f2).wf = true))) : ∃ k,laws_FnExactPopExit.f k l0_0 l1 = some true:=by
 have hmax : maxLen = 9223372036854775807:=by decide
 rw [hmax] at G0_0 g1
 refine Ev.out (F:=fun k=>laws_FnExactPopExit.f k l0_0 l1) ?_
 unfold laws_FnExactPopExit.f
 obtain ⟨v0,hv0,hg0⟩:=laws_szTree_ev l0_0 1048576 (by omega) (by omega) G0_0.1 (fun x hx=>(G0_0.2 x hx).1)
 refine Ev.bind hv0 ?_
 by_cases hn0 : v0 < 0
 ·exact Ev.pos hn0 (Ev.const rfl)
 refine Ev.neg hn0 ?_
 obtain ⟨hva0,hl0,hs⟩:=hg0 (by omega)
 obtain ⟨v1,hv1,hg1⟩:=laws_szExitS_ev l1 v0 (by omega) (by omega) g1.1
 refine Ev.bind hv1 ?_
 by_cases hn1 : v1 < 0
 ·exact Ev.pos hn1 (Ev.const rfl)
 refine Ev.neg hn1 ?_
 obtain ⟨hva1,hl1⟩:=hg1 (by omega)
 have hT0:=laws_toTree_ev l0_0 (by omega)
 have hm0 : (l0_0.map toC).length ≤ 1048576:=by rw [List.length_map];omega
 have hT1:=laws_toExitS_ev l1 (by omega)
 have hm1 : (l1.map toExit).length ≤ 1048576:=by rw [List.length_map];omega
 have hsm:=smT_of hs
 have hS : Ev (fun k=>spec_PopExit.f k (l0_0.map toC) (l1.map toExit)) (popP (l0_0.map toC) (l1.map toExit)):=spec_PopExit_ev (l0_0.map toC) (l1.map toExit) hsm (by omega) (by omega)
 have hG : Ev (fun k=>impl_PopExit.f k (l0_0.map toC) (l1.map toExit)) (popP (l0_0.map toC) (l1.map toExit)):=impl_PopExit_ev (l0_0.map toC) (l1.map toExit) hsm (by omega)
 have hrl:=popP_len (l0_0.map toC) (l1.map toExit)
 generalize popP (l0_0.map toC) (l1.map toExit) = r at hS hG hrl
 obtain ⟨r0,r1,r2,r3,r4⟩:=r
 simp only at hrl
 have hEr0:=laws_eqExitS_ev r0 (by omega)
 have hEr1 : Ev (fun _=>laws_eqExit.f r1 r2 r3 r1 r2 r3) true:=Ev.const (by simp [laws_eqExit.f])
 obtain ⟨l',hM0⟩:=laws_markTree_ev (l0_0.map toC) (1) (by omega) (by omega)
 have hM1:=laws_markExitS_ev (l1.map toExit) (1 + 2 * (l0_0.map toC).length) (by omega) (by omega)
 have hm9r0:=laws_markExitS_ev r0 (1) (by omega) (by omega)
 have hhr0:=laws_heldExitS_ev (1) r0.length (by omega) (by omega)
 refine Ev.bind hT0 (Ev.bind hT1 (Ev.bind hS (Ev.bind hT0 (Ev.bind hT1 (Ev.bind hG (Ev.bind hEr0 (Ev.pos rfl (Ev.bind hEr1 (Ev.pos rfl ?_)))))))))
 refine Ev.succ ?_
 simp only [laws_FnExactPopExit.j0]
 refine Ev.neg (by simp) (Ev.bind hT0 (Ev.bind (laws_eqTree_ev _ (by omega)) (Ev.pos rfl (Ev.bind hT1 (Ev.bind (laws_eqExitS_ev _ (by omega)) (Ev.pos rfl (Ev.bind hM0 (Ev.bind hM1 (Ev.neg (by show ¬ (_ < (0 : Int));omega) (Ev.bind hEr0 (Ev.pos rfl (Ev.bind hEr1 (Ev.pos rfl ?_)))))))))))))
 refine Ev.succ ?_
 simp only [laws_FnExactPopExit.j1]
 refine Ev.neg (by simp) (Ev.bind hm9r0 (Ev.bind hhr0 (Ev.neg (by omega) (Ev.pos rfl (Ev.bind hT0 (Ev.bind hT1 (Ev.bind hG (Ev.bind hEr0 (Ev.pos rfl (Ev.bind hEr1 (Ev.pos rfl ?_)))))))))))
 refine Ev.succ ?_
 simp only [laws_FnExactPopExit.j2]
 exact Ev.neg (by simp) (Ev.bind hhr0 (Ev.neg (by omega) (Ev.pos rfl (Ev.const rfl))))
end Go.Proofs.Ytjcodcimodnbjaa.Pure
