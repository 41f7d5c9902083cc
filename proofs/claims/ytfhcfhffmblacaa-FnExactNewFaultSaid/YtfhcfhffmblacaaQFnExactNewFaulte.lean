/- Texts under the proof of FnExactNewFault: helper words, the functions' contracts and the plain laws. No condition. -/
import Derived.Test.YtfhcfhffmblacaaQFnExactNewFaulta
import Derived.Test.YtfhcfhffmblacaaQFnExactNewFaultb
import Derived.Test.YtfhcfhffmblacaaQFnExactNewFaultc
import Derived.Test.YtfhcfhffmblacaaQFnExactNewFaultd
namespace Go.Proofs.Ytfhcfhffmblacaa.P
open Go.RowKit Go.Proofs.YtfhcfhffmblacaaW.PrintWords Go.Proofs.YtfhcfhffmblacaaW.PrintLast Go.Proofs.YtfhcfhffmblacaaW.PrintMore Go.Proofs.YtfhcfhffmblacaaW.PrintWords.Kd
attribute [local go_sem] max2_int min2_int max_two min_two max_three min_three max_four min_four
set_option linter.unusedVariables false
set_option linter.unusedSimpArgs false
mutual
def laws_FnExactNewFault.j0 : Nat → Int → Int → Int → Bool → Int → Bool → Bool → List (S103) → List (S109) → List (S79) → List (S106) → List (S79) → List (S79) → Option (Bool)
 | 0,_,_,_,_,_,_,_,_,_,_,_,_,_=>none
 | k + 1,x2,x3,x11,x12,x16,x17,x71,x2000,x3000,x17000,x21000,x25000,x31000=>if x71 = true then (some false) else ((laws_toTree.f k x2000).bind fun t32=>((laws_eqTree.f k x21000 t32).bind fun t35=>(if t35 = true then ((laws_toHeap.f k x3000).bind fun t36=>((laws_eqHeap.f k x25000 t36).bind fun t39=>(if t39 = true then ((laws_markTree.f k x21000 1).bind fun bt40=>((laws_markHeap.f k x25000 bt40.1).bind fun bt42=>(if bt42.1 < 0 then (laws_FnExactNewFault.j1 k x2 x3 x11 x12 true x2000 x3000 x17000 x31000) else ((laws_eqHeap.f k x31000 x17000).bind fun t44=>(if t44 = true then (if x16 = x11 then (laws_FnExactNewFault.j1 k x2 x3 x11 x12 (x17 != x12) x2000 x3000 x17000 x31000) else (laws_FnExactNewFault.j1 k x2 x3 x11 x12 true x2000 x3000 x17000 x31000)) else (laws_FnExactNewFault.j1 k x2 x3 x11 x12 true x2000 x3000 x17000 x31000)))))) else (some false)))) else (some false))))
def laws_FnExactNewFault.j1 : Nat → Int → Int → Int → Bool → Bool → List (S103) → List (S109) → List (S79) → List (S79) → Option (Bool)
 | 0,_,_,_,_,_,_,_,_,_=>none
 | k + 1,x2,x3,x11,x12,x105,x2000,x3000,x17000,x31000=>if x105 = true then (some false) else ((laws_markHeap.f k x31000 1).bind fun bt45=>((laws_heldHeap.f k bt45.2 1).bind fun t47=>(if t47 < 0 then (some false) else (if t47 = bt45.1 then ((laws_toTree.f k x2000).bind fun t48=>((laws_toHeap.f k x3000).bind fun t51=>((impl_NewFault.f t48 t51 x2 x3).bind fun bt54=>((laws_eqHeap.f k bt54.1 x17000).bind fun t60=>(if t60 = true then (if bt54.2.1 = x11 then (laws_FnExactNewFault.j2 k bt45.1 (bt54.2.2 != x12) bt45.2) else (laws_FnExactNewFault.j2 k bt45.1 true bt45.2)) else (laws_FnExactNewFault.j2 k bt45.1 true bt45.2)))))) else (some false)))))
def laws_FnExactNewFault.j2 : Nat → Int → Bool → List (S79) → Option (Bool)
 | 0,_,_,_=>none
 | k + 1,x19,x141,x31000=>if x141 = true then (some false) else ((laws_heldHeap.f k x31000 1).bind fun t61=>(if t61 < 0 then (some false) else (if t61 = x19 then (some true) else (some false))))
end
def laws_FnExactNewFault.f (k : Nat) (l0_0 : List (S103)) (l1_0 : List (S109)) (a2 : Int) (a3 : Int) : Option (Bool):=(laws_szTree.f k l0_0 1048576).bind fun t3=>(if t3 < 0 then (some true) else ((laws_szHeap.f l1_0 t3).bind fun t4=>(if t4 < 0 then (some true) else ((laws_toTree.f k l0_0).bind fun t5=>((laws_toHeap.f k l1_0).bind fun t8=>((spec_NewFault.f k t5 t8 a2 a3).bind fun bt11=>((laws_toTree.f k l0_0).bind fun t17=>((laws_toHeap.f k l1_0).bind fun t21=>((impl_NewFault.f t17 t21 a2 a3).bind fun bt25=>((laws_eqHeap.f k bt25.1 bt11.1).bind fun t31=>(if t31 = true then (if bt25.2.1 = bt11.2.1 then (laws_FnExactNewFault.j0 k a2 a3 bt11.2.1 bt11.2.2 bt25.2.1 bt25.2.2 (bt25.2.2 != bt11.2.2) l0_0 l1_0 bt11.1 t17 t21 bt25.1) else (laws_FnExactNewFault.j0 k a2 a3 bt11.2.1 bt11.2.2 bt25.2.1 bt25.2.2 true l0_0 l1_0 bt11.1 t17 t21 bt25.1)) else (laws_FnExactNewFault.j0 k a2 a3 bt11.2.1 bt11.2.2 bt25.2.1 bt25.2.2 true l0_0 l1_0 bt11.1 t17 t21 bt25.1))))))))))))
theorem laws_FnExactNewFault.mono_l : ∀ k,(∀ y0 y1 y2 y3 y4 y5 y6 y7 y8 y9 y10 y11 y12,LeO (laws_FnExactNewFault.j0 k y0 y1 y2 y3 y4 y5 y6 y7 y8 y9 y10 y11 y12) (laws_FnExactNewFault.j0 (k + 1) y0 y1 y2 y3 y4 y5 y6 y7 y8 y9 y10 y11 y12)) ∧ (∀ y0 y1 y2 y3 y4 y5 y6 y7 y8,LeO (laws_FnExactNewFault.j1 k y0 y1 y2 y3 y4 y5 y6 y7 y8) (laws_FnExactNewFault.j1 (k + 1) y0 y1 y2 y3 y4 y5 y6 y7 y8)) ∧ (∀ y0 y1 y2,LeO (laws_FnExactNewFault.j2 k y0 y1 y2) (laws_FnExactNewFault.j2 (k + 1) y0 y1 y2))
 | 0=>⟨fun _ _ _ _ _ _ _ _ _ _ _ _ _ r h=>by simp [laws_FnExactNewFault.j0] at h,fun _ _ _ _ _ _ _ _ _ r h=>by simp [laws_FnExactNewFault.j1] at h,fun _ _ _ r h=>by simp [laws_FnExactNewFault.j2] at h⟩
 | k + 1=>by
  obtain ⟨ih0,ih1,ih2⟩:=laws_FnExactNewFault.mono_l k
  refine ⟨?_,?_,?_⟩
  ·intro y0 y1 y2 y3 y4 y5 y6 y7 y8 y9 y10 y11 y12
   unfold laws_FnExactNewFault.j0
   repeat' first
   | (with_reducible exact ih0 _ _ _ _ _ _ _ _ _ _ _ _ _)
   | (with_reducible exact ih1 _ _ _ _ _ _ _ _ _)
   | (with_reducible exact ih2 _ _ _)
   | (with_reducible exact laws_eqHeap.mono _ _ _)
   | (with_reducible exact laws_eqTree.mono _ _ _)
   | (with_reducible exact laws_heldHeap.mono _ _ _)
   | (with_reducible exact laws_markHeap.mono _ _ _)
   | (with_reducible exact laws_markTree.mono _ _ _)
   | (with_reducible exact laws_szTree.mono _ _ _)
   | (with_reducible exact laws_toHeap.mono _ _)
   | (with_reducible exact laws_toTree.mono _ _)
   | (with_reducible exact spec_NewFault.mono _ _ _ _ _)
   | (with_reducible exact LeO.refl _)
   | (with_reducible exact LeO.none _)
   | (with_reducible refine LeO.ite ?_ ?_)
   | (with_reducible refine LeO.bind ?_ (fun _=>?_))
   | exact ih0 _ _ _ _ _ _ _ _ _ _ _ _ _
   | exact ih1 _ _ _ _ _ _ _ _ _
   | exact ih2 _ _ _
   | exact laws_eqHeap.mono _ _ _
   | exact laws_eqTree.mono _ _ _
   | exact laws_heldHeap.mono _ _ _
   | exact laws_markHeap.mono _ _ _
   | exact laws_markTree.mono _ _ _
   | exact laws_szTree.mono _ _ _
   | exact laws_toHeap.mono _ _
   | exact laws_toTree.mono _ _
   | exact spec_NewFault.mono _ _ _ _ _
   | exact LeO.none _
   | refine LeO.ite ?_ ?_
   | refine LeO.bind ?_ (fun _=>?_)
  ·intro y0 y1 y2 y3 y4 y5 y6 y7 y8
   unfold laws_FnExactNewFault.j1
   repeat' first
   | (with_reducible exact ih0 _ _ _ _ _ _ _ _ _ _ _ _ _)
   | (with_reducible exact ih1 _ _ _ _ _ _ _ _ _)
   | (with_reducible exact ih2 _ _ _)
   | (with_reducible exact laws_eqHeap.mono _ _ _)
   | (with_reducible exact laws_eqTree.mono _ _ _)
   | (with_reducible exact laws_heldHeap.mono _ _ _)
   | (with_reducible exact laws_markHeap.mono _ _ _)
   | (with_reducible exact laws_markTree.mono _ _ _)
   | (with_reducible exact laws_szTree.mono _ _ _)
   | (with_reducible exact laws_toHeap.mono _ _)
   | (with_reducible exact laws_toTree.mono _ _)
   | (with_reducible exact spec_NewFault.mono _ _ _ _ _)
   | (with_reducible exact LeO.refl _)
   | (with_reducible exact LeO.none _)
   | (with_reducible refine LeO.ite ?_ ?_)
   | (with_reducible refine LeO.bind ?_ (fun _=>?_))
   | exact ih0 _ _ _ _ _ _ _ _ _ _ _ _ _
   | exact ih1 _ _ _ _ _ _ _ _ _
   | exact ih2 _ _ _
   | exact laws_eqHeap.mono _ _ _
   | exact laws_eqTree.mono _ _ _
   | exact laws_heldHeap.mono _ _ _
   | exact laws_markHeap.mono _ _ _
   | exact laws_markTree.mono _ _ _
   | exact laws_szTree.mono _ _ _
   | exact laws_toHeap.mono _ _
   | exact laws_toTree.mono _ _
   | exact spec_NewFault.mono _ _ _ _ _
   | exact LeO.none _
   | refine LeO.ite ?_ ?_
   | refine LeO.bind ?_ (fun _=>?_)
  ·intro y0 y1 y2
   unfold laws_FnExactNewFault.j2
   repeat' first
   | (with_reducible exact ih0 _ _ _ _ _ _ _ _ _ _ _ _ _)
   | (with_reducible exact ih1 _ _ _ _ _ _ _ _ _)
   | (with_reducible exact ih2 _ _ _)
   | (with_reducible exact laws_eqHeap.mono _ _ _)
   | (with_reducible exact laws_eqTree.mono _ _ _)
   | (with_reducible exact laws_heldHeap.mono _ _ _)
   | (with_reducible exact laws_markHeap.mono _ _ _)
   | (with_reducible exact laws_markTree.mono _ _ _)
   | (with_reducible exact laws_szTree.mono _ _ _)
   | (with_reducible exact laws_toHeap.mono _ _)
   | (with_reducible exact laws_toTree.mono _ _)
   | (with_reducible exact spec_NewFault.mono _ _ _ _ _)
   | (with_reducible exact LeO.refl _)
   | (with_reducible exact LeO.none _)
   | (with_reducible refine LeO.ite ?_ ?_)
   | (with_reducible refine LeO.bind ?_ (fun _=>?_))
   | exact ih0 _ _ _ _ _ _ _ _ _ _ _ _ _
   | exact ih1 _ _ _ _ _ _ _ _ _
   | exact ih2 _ _ _
   | exact laws_eqHeap.mono _ _ _
   | exact laws_eqTree.mono _ _ _
   | exact laws_heldHeap.mono _ _ _
   | exact laws_markHeap.mono _ _ _
   | exact laws_markTree.mono _ _ _
   | exact laws_szTree.mono _ _ _
   | exact laws_toHeap.mono _ _
   | exact laws_toTree.mono _ _
   | exact spec_NewFault.mono _ _ _ _ _
   | exact LeO.none _
   | refine LeO.ite ?_ ?_
   | refine LeO.bind ?_ (fun _=>?_)
theorem laws_FnExactNewFault.mono : ∀ a0 a1 a2 a3 k,LeO (laws_FnExactNewFault.f k a0 a1 a2 a3) (laws_FnExactNewFault.f (k + 1) a0 a1 a2 a3):=by
 intro a0 a1 a2 a3 k
 obtain ⟨ih0,ih1,ih2⟩:=laws_FnExactNewFault.mono_l k
 unfold laws_FnExactNewFault.f
 repeat' first
   | (with_reducible exact ih0 _ _ _ _ _ _ _ _ _ _ _ _ _)
   | (with_reducible exact ih1 _ _ _ _ _ _ _ _ _)
   | (with_reducible exact ih2 _ _ _)
   | (with_reducible exact laws_eqHeap.mono _ _ _)
   | (with_reducible exact laws_eqTree.mono _ _ _)
   | (with_reducible exact laws_heldHeap.mono _ _ _)
   | (with_reducible exact laws_markHeap.mono _ _ _)
   | (with_reducible exact laws_markTree.mono _ _ _)
   | (with_reducible exact laws_szTree.mono _ _ _)
   | (with_reducible exact laws_toHeap.mono _ _)
   | (with_reducible exact laws_toTree.mono _ _)
   | (with_reducible exact spec_NewFault.mono _ _ _ _ _)
   | (with_reducible exact LeO.refl _)
   | (with_reducible exact LeO.none _)
   | (with_reducible refine LeO.ite ?_ ?_)
   | (with_reducible refine LeO.bind ?_ (fun _=>?_))
   | exact ih0 _ _ _ _ _ _ _ _ _ _ _ _ _
   | exact ih1 _ _ _ _ _ _ _ _ _
   | exact ih2 _ _ _
   | exact laws_eqHeap.mono _ _ _
   | exact laws_eqTree.mono _ _ _
   | exact laws_heldHeap.mono _ _ _
   | exact laws_markHeap.mono _ _ _
   | exact laws_markTree.mono _ _ _
   | exact laws_szTree.mono _ _ _
   | exact laws_toHeap.mono _ _
   | exact laws_toTree.mono _ _
   | exact spec_NewFault.mono _ _ _ _ _
   | exact LeO.none _
   | refine LeO.ite ?_ ?_
   | refine LeO.bind ?_ (fun _=>?_)
def laws_FnExactNewFault.T8 : Bool × List (List Nat × List Nat):=(true,[([],[]),([0],[0]),([],[]),([2,1],[2]),([],[]),([],[]),([1,3,4,5,3],[1,3,4,5]),([6],[6]),([7],[7]),([7],[7]),([7],[7]),([],[]),([11,8,6,0,1,2,3,4,5,6,7,8,11],[8,11]),([9,12,0,1,2,3,4,5,6,7,8,9,11,12],[9]),([10,13,0,1,2,3,4,5,6,7,8,9,10,11,12,13],[10])])
def laws_FnExactNewFault.B8 : List Nat:=[0,1,0,7,0,0,63,127,255,255,255,0,2559,7167,16383]
theorem laws_FnExactNewFault.tab8 : rtab .any (opsOf Try.f10 8) = laws_FnExactNewFault.T8:=by kernel_rfl
theorem laws_FnExactNewFault.bits8 : waitsOk laws_FnExactNewFault.T8.2 laws_FnExactNewFault.B8 = true:=by kernel_rfl
def laws_FnExactNewFault.T31 : Bool × List (List Nat × List Nat):=(true,[([],[]),([0],[0]),([],[]),([2,1],[2]),([],[]),([],[]),([1,3,4,5,3],[1,3,4,5]),([6],[6]),([7],[7]),([7],[7]),([7],[7]),([],[]),([11,8,6,0,1,2,3,4,5,6,7,8,11],[8,11]),([9,12,0,1,2,3,4,5,6,7,8,9,11,12],[9]),([10,13,0,1,2,3,4,5,6,7,8,9,10,11,12,13],[10])])
def laws_FnExactNewFault.B31 : List Nat:=[0,1,0,7,0,0,63,127,255,255,255,0,2559,7167,16383]
theorem laws_FnExactNewFault.tab31 : rtab .any (opsOf Try.f10 31) = laws_FnExactNewFault.T31:=by kernel_rfl
theorem laws_FnExactNewFault.bits31 : waitsOk laws_FnExactNewFault.T31.2 laws_FnExactNewFault.B31 = true:=by kernel_rfl
set_option maxHeartbeats 8000000 in
set_option maxRecDepth 100000 in
theorem laws_FnExactNewFault.calls (k : Nat) (A0_0 : Option Addr) (c0_0 : Nat) (l0_0 : List (S103)) (A1_0 : Option Addr) (c1_0 : Nat) (l1_0 : List (S109)) (a2 : Int) (a3 : Int) (r : Bool) (w : World) (hr0_0 : Kd.C k103 w A0_0 l0_0.length l0_0) (hc0_0 : l0_0.length ≤ c0_0) (hr1_0 : Kd.C k109 w A1_0 l1_0.length l1_0) (hc1_0 : l1_0.length ≤ c1_0) (h : laws_FnExactNewFault.f k l0_0 l1_0 a2 a3 = some r) :
  Calls Try.prog 10 #[.agg #[.slice A0_0 l0_0.length c0_0],.agg #[.slice A1_0 l1_0.length c1_0],.int .i64 a2,.int .i64 a3] w fun e w'=>e = .returned (.bool r) ∧ Below w.heap.size w w':=by
 have hu24:=Try.underlying24
 have hu27:=Try.underlying27
 have hu37:=Try.underlying37
 have hu33:=Try.underlying33
 have HR0_0:=a0_ hr0_0
 have HC0_0:=a0_ hc0_0
 clear hr0_0 hc0_0
 have HR1_0:=a0_ hr1_0
 have HC1_0:=a0_ hc1_0
 clear hr1_0 hc1_0
 have HB:=a0_ (Below.refl w.heap.size w)
 have H : ((laws_szTree.f k l0_0 1048576).bind fun t3=>(if t3 < 0 then (some true) else ((laws_szHeap.f l1_0 t3).bind fun t4=>(if t4 < 0 then (some true) else ((laws_toTree.f k l0_0).bind fun t5=>((laws_toHeap.f k l1_0).bind fun t8=>((spec_NewFault.f k t5 t8 a2 a3).bind fun bt11=>((laws_toTree.f k l0_0).bind fun t17=>((laws_toHeap.f k l1_0).bind fun t21=>((impl_NewFault.f t17 t21 a2 a3).bind fun bt25=>((laws_eqHeap.f k bt25.1 bt11.1).bind fun t31=>(if t31 = true then (if bt25.2.1 = bt11.2.1 then (laws_FnExactNewFault.j0 k a2 a3 bt11.2.1 bt11.2.2 bt25.2.1 bt25.2.2 (bt25.2.2 != bt11.2.2) l0_0 l1_0 bt11.1 t17 t21 bt25.1) else (laws_FnExactNewFault.j0 k a2 a3 bt11.2.1 bt11.2.2 bt25.2.1 bt25.2.2 true l0_0 l1_0 bt11.1 t17 t21 bt25.1)) else (laws_FnExactNewFault.j0 k a2 a3 bt11.2.1 bt11.2.2 bt25.2.1 bt25.2.2 true l0_0 l1_0 bt11.1 t17 t21 bt25.1))))))))))))) = some r:=h
 clear h
 replace H:=Option.bind_eq_some_iff.mp H
 obtain ⟨t3,A50,H⟩:=H
 replace H : (if t3 < 0 then (some true) else ((laws_szHeap.f l1_0 t3).bind fun t4=>(if t4 < 0 then (some true) else ((laws_toTree.f k l0_0).bind fun t5=>((laws_toHeap.f k l1_0).bind fun t8=>((spec_NewFault.f k t5 t8 a2 a3).bind fun bt11=>((laws_toTree.f k l0_0).bind fun t17=>((laws_toHeap.f k l1_0).bind fun t21=>((impl_NewFault.f t17 t21 a2 a3).bind fun bt25=>((laws_eqHeap.f k bt25.1 bt11.1).bind fun t31=>(if t31 = true then (if bt25.2.1 = bt11.2.1 then (laws_FnExactNewFault.j0 k a2 a3 bt11.2.1 bt11.2.2 bt25.2.1 bt25.2.2 (bt25.2.2 != bt11.2.2) l0_0 l1_0 bt11.1 t17 t21 bt25.1) else (laws_FnExactNewFault.j0 k a2 a3 bt11.2.1 bt11.2.2 bt25.2.1 bt25.2.2 true l0_0 l1_0 bt11.1 t17 t21 bt25.1)) else (laws_FnExactNewFault.j0 k a2 a3 bt11.2.1 bt11.2.2 bt25.2.1 bt25.2.2 true l0_0 l1_0 bt11.1 t17 t21 bt25.1)))))))))))) = some r:=H
 have A5:=a0_ A50
 clear A50
 by_cases c6 : t3 < 0
 ·rw [if_pos c6] at H
  have c6b0 : decide (t3 < 0) = true:=decide_eq_true c6
  clear c6
  obtain rfl:=Option.some.inj H
  go_enter Try.func10,Try.ntmps10
  go_wp2_with (first | ((with_reducible refine gate_dst (N:=4) rfl ?_);refine box_event ?hg (N:=4) ?hd (cs:=#[.slice A0_0 l0_0.length c0_0]) (t:=24) ?hr ?_;(case hd=>rfl);(case hg=>rfl);(case hr=>first | (go_simp;done) | (go_simp;rfl));intro gb1 hg w7 hbox hb;have BK1:=a0_ (hbox);have GW1:=a0_ ((by rw [hg];exact (below_size hb_) : w.heap.size ≤ gb1));have GE1:=a0_ ((by rw [hg];exact (below_size hb_) : w.heap.size ≤ gb1));replace HB:=a0_ (below_step hb_ hb);clear hb hbox hg) | ((with_reducible refine gate_dst (N:=5) rfl ?_);refine box_event ?hg (N:=5) ?hd (cs:=#[.slice A1_0 l1_0.length c1_0]) (t:=27) ?hr ?_;(case hd=>rfl);(case hg=>rfl);(case hr=>first | (go_simp;done) | (go_simp;rfl));intro gb2 hg w8 hbox hb;have n0_:=kb_ BK1 hb;have n1_:=a0_ (below_step hb_ hb);have n2_:=a0_ (hbox);have n3_:=a0_ ((by rw [hg];exact (below_size hb_) : w.heap.size ≤ gb2));have n4_:=a0_ ((by rw [hg];exact (below_size hb_) : w.heap.size ≤ gb2));have n5_:=a0_ ((by rw [hg];exact Nat.ne_of_lt (blk_lt (bb_ BK1.1)) : gb1 ≠ gb2));have n6_:=a0_ ((by rw [hg];exact Nat.ne_of_gt (blk_lt (bb_ BK1.1)) : gb2 ≠ gb1));clear BK1 HB;have BK1:=n0_;have HB:=n1_;have BK2:=n2_;have GW2:=n3_;have GE2:=n4_;have NB1_2:=n5_;have NB2_1:=n6_;clear n0_ n1_ n2_ n3_ n4_ n5_ n6_;clear hb hbox hg;have hnb9:=NB1_2.1;have hnc9:=NB2_1.1;have hcz10_0 : w8.cell? ⟨gb1,0,none⟩ = some (.slice A0_0 l0_0.length c0_0):=(blk_cell BK1.1 0).trans rfl;have hfz10_0:=blk_frozen BK1.1 0) | ((with_reducible refine gate_callee (f:=14) rfl ?_);refine goesL_ (some 26) rfl rfl Try.func14 (by kernel_rfl) rfl #[.agg #[.slice A0_0 l0_0.length c0_0],.int .i64 1048576] rfl lm_ ?_;(with_reducible refine (laws_szTree.calls k _ _ l0_0 1048576 t3 _ ?side1 ?side2 A5.1).mono ?_);(case side1=>exact cc_ (C_below HR0_0.1 HB.1));(case side2=>exact HC0_0.1);rintro e w11 ⟨rfl,hb⟩;refine ⟨_,rfl,?_⟩;replace BK1:=kb_ BK1 hb;replace BK2:=kb_ BK2 hb;replace HB:=a0_ (below_step hb_ hb);(try clear hb);(try clear hb2);(try clear hk);(try clear hi)))
  go_ret
  exact ⟨by first | rfl | (simp [errW_none,errW_some] <;> rfl) | (simp [*,errW_none,errW_some] <;> rfl),hb_⟩
 ·rw [if_neg c6] at H
  have c6b0 : decide (t3 < 0) = false:=decide_eq_false c6
  clear c6
  replace H:=Option.bind_eq_some_iff.mp H
  obtain ⟨t4,A120,H⟩:=H
  replace H : (if t4 < 0 then (some true) else ((laws_toTree.f k l0_0).bind fun t5=>((laws_toHeap.f k l1_0).bind fun t8=>((spec_NewFault.f k t5 t8 a2 a3).bind fun bt11=>((laws_toTree.f k l0_0).bind fun t17=>((laws_toHeap.f k l1_0).bind fun t21=>((impl_NewFault.f t17 t21 a2 a3).bind fun bt25=>((laws_eqHeap.f k bt25.1 bt11.1).bind fun t31=>(if t31 = true then (if bt25.2.1 = bt11.2.1 then (laws_FnExactNewFault.j0 k a2 a3 bt11.2.1 bt11.2.2 bt25.2.1 bt25.2.2 (bt25.2.2 != bt11.2.2) l0_0 l1_0 bt11.1 t17 t21 bt25.1) else (laws_FnExactNewFault.j0 k a2 a3 bt11.2.1 bt11.2.2 bt25.2.1 bt25.2.2 true l0_0 l1_0 bt11.1 t17 t21 bt25.1)) else (laws_FnExactNewFault.j0 k a2 a3 bt11.2.1 bt11.2.2 bt25.2.1 bt25.2.2 true l0_0 l1_0 bt11.1 t17 t21 bt25.1)))))))))) = some r:=H
  have A12:=a0_ A120
  clear A120
  by_cases c13 : t4 < 0
  ·rw [if_pos c13] at H
   have c13b0 : decide (t4 < 0) = true:=decide_eq_true c13
   clear c13
   obtain rfl:=Option.some.inj H
   go_enter Try.func10,Try.ntmps10
   go_wp2_with (first | ((with_reducible refine gate_dst (N:=4) rfl ?_);refine box_event ?hg (N:=4) ?hd (cs:=#[.slice A0_0 l0_0.length c0_0]) (t:=24) ?hr ?_;(case hd=>rfl);(case hg=>rfl);(case hr=>first | (go_simp;done) | (go_simp;rfl));intro gb1 hg w14 hbox hb;have BK1:=a0_ (hbox);have GW1:=a0_ ((by rw [hg];exact (below_size hb_) : w.heap.size ≤ gb1));have GE1:=a0_ ((by rw [hg];exact (below_size hb_) : w.heap.size ≤ gb1));replace HB:=a0_ (below_step hb_ hb);clear hb hbox hg) | ((with_reducible refine gate_dst (N:=5) rfl ?_);refine box_event ?hg (N:=5) ?hd (cs:=#[.slice A1_0 l1_0.length c1_0]) (t:=27) ?hr ?_;(case hd=>rfl);(case hg=>rfl);(case hr=>first | (go_simp;done) | (go_simp;rfl));intro gb2 hg w15 hbox hb;have n0_:=kb_ BK1 hb;have n1_:=a0_ (below_step hb_ hb);have n2_:=a0_ (hbox);have n3_:=a0_ ((by rw [hg];exact (below_size hb_) : w.heap.size ≤ gb2));have n4_:=a0_ ((by rw [hg];exact (below_size hb_) : w.heap.size ≤ gb2));have n5_:=a0_ ((by rw [hg];exact Nat.ne_of_lt (blk_lt (bb_ BK1.1)) : gb1 ≠ gb2));have n6_:=a0_ ((by rw [hg];exact Nat.ne_of_gt (blk_lt (bb_ BK1.1)) : gb2 ≠ gb1));clear BK1 HB;have BK1:=n0_;have HB:=n1_;have BK2:=n2_;have GW2:=n3_;have GE2:=n4_;have NB1_2:=n5_;have NB2_1:=n6_;clear n0_ n1_ n2_ n3_ n4_ n5_ n6_;clear hb hbox hg;have hnb16:=NB1_2.1;have hnc16:=NB2_1.1;have hcz17_0 : w15.cell? ⟨gb1,0,none⟩ = some (.slice A0_0 l0_0.length c0_0):=(blk_cell BK1.1 0).trans rfl;have hfz17_0:=blk_frozen BK1.1 0) | ((with_reducible refine gate_callee (f:=14) rfl ?_);refine goesL_ (some 26) rfl rfl Try.func14 (by kernel_rfl) rfl #[.agg #[.slice A0_0 l0_0.length c0_0],.int .i64 1048576] rfl lm_ ?_;(with_reducible refine (laws_szTree.calls k _ _ l0_0 1048576 t3 _ ?side1 ?side2 A5.1).mono ?_);(case side1=>exact cc_ (C_below HR0_0.1 HB.1));(case side2=>exact HC0_0.1);rintro e w18 ⟨rfl,hb⟩;refine ⟨_,rfl,?_⟩;replace BK1:=kb_ BK1 hb;replace BK2:=kb_ BK2 hb;replace HB:=a0_ (below_step hb_ hb);(try clear hb);have hcz19_0 : w18.cell? ⟨gb2,0,none⟩ = some (.slice A1_0 l1_0.length c1_0):=(blk_cell BK2.1 0).trans rfl;have hfz19_0:=blk_frozen BK2.1 0) | ((with_reducible refine gate_callee (f:=15) rfl ?_);refine goesL_ (some 31) rfl rfl Try.func15 (by kernel_rfl) rfl #[.agg #[.slice A1_0 l1_0.length c1_0],.int .i64 t3] rfl lm_ ?_;(with_reducible refine (laws_szHeap.calls _ _ l1_0 t3 t4 _ ?side1 ?side2 A12.1).mono ?_);(case side1=>exact cc_ (C_below HR1_0.1 HB.1));(case side2=>exact HC1_0.1);rintro e w20 ⟨rfl,hb⟩;refine ⟨_,rfl,?_⟩;replace BK1:=kb_ BK1 hb;replace BK2:=kb_ BK2 hb;replace HB:=a0_ (below_step hb_ hb);(try clear hb);(try clear hb2);(try clear hk);(try clear hi)))
   go_ret
   exact ⟨by first | rfl | (simp [errW_none,errW_some] <;> rfl) | (simp [*,errW_none,errW_some] <;> rfl),hb_⟩
  ·rw [if_neg c13] at H
   have c13b0 : decide (t4 < 0) = false:=decide_eq_false c13
   clear c13
   replace H:=Option.bind_eq_some_iff.mp H
   obtain ⟨t5,A210,H⟩:=H
   replace H : ((laws_toHeap.f k l1_0).bind fun t8=>((spec_NewFault.f k t5 t8 a2 a3).bind fun bt11=>((laws_toTree.f k l0_0).bind fun t17=>((laws_toHeap.f k l1_0).bind fun t21=>((impl_NewFault.f t17 t21 a2 a3).bind fun bt25=>((laws_eqHeap.f k bt25.1 bt11.1).bind fun t31=>(if t31 = true then (if bt25.2.1 = bt11.2.1 then (laws_FnExactNewFault.j0 k a2 a3 bt11.2.1 bt11.2.2 bt25.2.1 bt25.2.2 (bt25.2.2 != bt11.2.2) l0_0 l1_0 bt11.1 t17 t21 bt25.1) else (laws_FnExactNewFault.j0 k a2 a3 bt11.2.1 bt11.2.2 bt25.2.1 bt25.2.2 true l0_0 l1_0 bt11.1 t17 t21 bt25.1)) else (laws_FnExactNewFault.j0 k a2 a3 bt11.2.1 bt11.2.2 bt25.2.1 bt25.2.2 true l0_0 l1_0 bt11.1 t17 t21 bt25.1)))))))) = some r:=H
   have A21:=a0_ A210
   clear A210
   replace H:=Option.bind_eq_some_iff.mp H
   obtain ⟨t8,A220,H⟩:=H
   replace H : ((spec_NewFault.f k t5 t8 a2 a3).bind fun bt11=>((laws_toTree.f k l0_0).bind fun t17=>((laws_toHeap.f k l1_0).bind fun t21=>((impl_NewFault.f t17 t21 a2 a3).bind fun bt25=>((laws_eqHeap.f k bt25.1 bt11.1).bind fun t31=>(if t31 = true then (if bt25.2.1 = bt11.2.1 then (laws_FnExactNewFault.j0 k a2 a3 bt11.2.1 bt11.2.2 bt25.2.1 bt25.2.2 (bt25.2.2 != bt11.2.2) l0_0 l1_0 bt11.1 t17 t21 bt25.1) else (laws_FnExactNewFault.j0 k a2 a3 bt11.2.1 bt11.2.2 bt25.2.1 bt25.2.2 true l0_0 l1_0 bt11.1 t17 t21 bt25.1)) else (laws_FnExactNewFault.j0 k a2 a3 bt11.2.1 bt11.2.2 bt25.2.1 bt25.2.2 true l0_0 l1_0 bt11.1 t17 t21 bt25.1))))))) = some r:=H
   have A22:=a0_ A220
   clear A220
   replace H:=Option.bind_eq_some_iff.mp H
   obtain ⟨⟨t11,t14,t15⟩,A230,H⟩:=H
   replace H : ((laws_toTree.f k l0_0).bind fun t17=>((laws_toHeap.f k l1_0).bind fun t21=>((impl_NewFault.f t17 t21 a2 a3).bind fun bt25=>((laws_eqHeap.f k bt25.1 t11).bind fun t31=>(if t31 = true then (if bt25.2.1 = t14 then (laws_FnExactNewFault.j0 k a2 a3 t14 t15 bt25.2.1 bt25.2.2 (bt25.2.2 != t15) l0_0 l1_0 t11 t17 t21 bt25.1) else (laws_FnExactNewFault.j0 k a2 a3 t14 t15 bt25.2.1 bt25.2.2 true l0_0 l1_0 t11 t17 t21 bt25.1)) else (laws_FnExactNewFault.j0 k a2 a3 t14 t15 bt25.2.1 bt25.2.2 true l0_0 l1_0 t11 t17 t21 bt25.1)))))) = some r:=H
   have A23:=a0_ A230
   clear A230
   replace H:=Option.bind_eq_some_iff.mp H
   obtain ⟨t17,A240,H⟩:=H
   replace H : ((laws_toHeap.f k l1_0).bind fun t21=>((impl_NewFault.f t17 t21 a2 a3).bind fun bt25=>((laws_eqHeap.f k bt25.1 t11).bind fun t31=>(if t31 = true then (if bt25.2.1 = t14 then (laws_FnExactNewFault.j0 k a2 a3 t14 t15 bt25.2.1 bt25.2.2 (bt25.2.2 != t15) l0_0 l1_0 t11 t17 t21 bt25.1) else (laws_FnExactNewFault.j0 k a2 a3 t14 t15 bt25.2.1 bt25.2.2 true l0_0 l1_0 t11 t17 t21 bt25.1)) else (laws_FnExactNewFault.j0 k a2 a3 t14 t15 bt25.2.1 bt25.2.2 true l0_0 l1_0 t11 t17 t21 bt25.1))))) = some r:=H
   have A24:=a0_ A240
   clear A240
   replace H:=Option.bind_eq_some_iff.mp H
   obtain ⟨t21,A250,H⟩:=H
   replace H : ((impl_NewFault.f t17 t21 a2 a3).bind fun bt25=>((laws_eqHeap.f k bt25.1 t11).bind fun t31=>(if t31 = true then (if bt25.2.1 = t14 then (laws_FnExactNewFault.j0 k a2 a3 t14 t15 bt25.2.1 bt25.2.2 (bt25.2.2 != t15) l0_0 l1_0 t11 t17 t21 bt25.1) else (laws_FnExactNewFault.j0 k a2 a3 t14 t15 bt25.2.1 bt25.2.2 true l0_0 l1_0 t11 t17 t21 bt25.1)) else (laws_FnExactNewFault.j0 k a2 a3 t14 t15 bt25.2.1 bt25.2.2 true l0_0 l1_0 t11 t17 t21 bt25.1)))) = some r:=H
   have A25:=a0_ A250
   clear A250
   replace H:=Option.bind_eq_some_iff.mp H
   obtain ⟨⟨t25,t28,t29⟩,A260,H⟩:=H
   replace H : ((laws_eqHeap.f k t25 t11).bind fun t31=>(if t31 = true then (if t28 = t14 then (laws_FnExactNewFault.j0 k a2 a3 t14 t15 t28 t29 (t29 != t15) l0_0 l1_0 t11 t17 t21 t25) else (laws_FnExactNewFault.j0 k a2 a3 t14 t15 t28 t29 true l0_0 l1_0 t11 t17 t21 t25)) else (laws_FnExactNewFault.j0 k a2 a3 t14 t15 t28 t29 true l0_0 l1_0 t11 t17 t21 t25))) = some r:=H
   have A26:=a0_ A260
   clear A260
   have HC27:=a0_ H
   clear H
   go_enter Try.func10,Try.ntmps10
   try go_wp2_with (first | ((with_reducible refine gate_dst (N:=4) rfl ?_);refine box_event ?hg (N:=4) ?hd (cs:=#[.slice A0_0 l0_0.length c0_0]) (t:=24) ?hr ?_;(case hd=>rfl);(case hg=>rfl);(case hr=>first | (go_simp;done) | (go_simp;rfl));intro gb1 hg w28 hbox hb;have BK1:=a0_ (hbox);have GW1:=a0_ ((by rw [hg];exact (below_size hb_) : w.heap.size ≤ gb1));have GE1:=a0_ ((by rw [hg];exact (below_size hb_) : w.heap.size ≤ gb1));replace HB:=a0_ (below_step hb_ hb);clear hb hbox hg) | ((with_reducible refine gate_dst (N:=5) rfl ?_);refine box_event ?hg (N:=5) ?hd (cs:=#[.slice A1_0 l1_0.length c1_0]) (t:=27) ?hr ?_;(case hd=>rfl);(case hg=>rfl);(case hr=>first | (go_simp;done) | (go_simp;rfl));intro gb2 hg w29 hbox hb;have n0_:=kb_ BK1 hb;have n1_:=a0_ (below_step hb_ hb);have n2_:=a0_ (hbox);have n3_:=a0_ ((by rw [hg];exact (below_size hb_) : w.heap.size ≤ gb2));have n4_:=a0_ ((by rw [hg];exact (below_size hb_) : w.heap.size ≤ gb2));have n5_:=a0_ ((by rw [hg];exact Nat.ne_of_lt (blk_lt (bb_ BK1.1)) : gb1 ≠ gb2));have n6_:=a0_ ((by rw [hg];exact Nat.ne_of_gt (blk_lt (bb_ BK1.1)) : gb2 ≠ gb1));clear BK1 HB;have BK1:=n0_;have HB:=n1_;have BK2:=n2_;have GW2:=n3_;have GE2:=n4_;have NB1_2:=n5_;have NB2_1:=n6_;clear n0_ n1_ n2_ n3_ n4_ n5_ n6_;clear hb hbox hg;have hnb30:=NB1_2.1;have hnc30:=NB2_1.1;have hcz31_0 : w29.cell? ⟨gb1,0,none⟩ = some (.slice A0_0 l0_0.length c0_0):=(blk_cell BK1.1 0).trans rfl;have hfz31_0:=blk_frozen BK1.1 0) | ((with_reducible refine gate_callee (f:=14) rfl ?_);refine goesL_ (some 26) rfl rfl Try.func14 (by kernel_rfl) rfl #[.agg #[.slice A0_0 l0_0.length c0_0],.int .i64 1048576] rfl lm_ ?_;(with_reducible refine (laws_szTree.calls k _ _ l0_0 1048576 t3 _ ?side1 ?side2 A5.1).mono ?_);(case side1=>exact cc_ (C_below HR0_0.1 HB.1));(case side2=>exact HC0_0.1);rintro e w32 ⟨rfl,hb⟩;refine ⟨_,rfl,?_⟩;replace BK1:=kb_ BK1 hb;replace BK2:=kb_ BK2 hb;replace HB:=a0_ (below_step hb_ hb);(try clear hb);have hcz33_0 : w32.cell? ⟨gb2,0,none⟩ = some (.slice A1_0 l1_0.length c1_0):=(blk_cell BK2.1 0).trans rfl;have hfz33_0:=blk_frozen BK2.1 0) | ((with_reducible refine gate_callee (f:=15) rfl ?_);refine goesL_ (some 31) rfl rfl Try.func15 (by kernel_rfl) rfl #[.agg #[.slice A1_0 l1_0.length c1_0],.int .i64 t3] rfl lm_ ?_;(with_reducible refine (laws_szHeap.calls _ _ l1_0 t3 t4 _ ?side1 ?side2 A12.1).mono ?_);(case side1=>exact cc_ (C_below HR1_0.1 HB.1));(case side2=>exact HC1_0.1);rintro e w34 ⟨rfl,hb⟩;refine ⟨_,rfl,?_⟩;replace BK1:=kb_ BK1 hb;replace BK2:=kb_ BK2 hb;replace HB:=a0_ (below_step hb_ hb);(try clear hb);(try clear hb2);(try clear hk);(try clear hi)))
   have n0_:=a0_ (blk_drew BK1.1)
   have n1_:=a0_ (blk_drew BK2.1)
   have n2_:=a0_ (below_drew1 HB.1)
   clear BK1
   clear BK2
   clear HB
   have BK1:=n0_
   have BK2:=n1_
   have HB:=n2_
   clear n0_ n1_ n2_
   refine start_ (n:=15) (S:=fun w'=>w'.cell? ⟨gb1,0,none⟩ = some (.slice A0_0 l0_0.length c0_0) ∧ w'.cell? ⟨gb2,0,none⟩ = some (.slice A1_0 l1_0.length c1_0)) (ds:=[]) #[false,false,false,false,false,false,false,false,false,false,false,false,false,false,false] (by kernel_rfl) rfl rfl ⟨(blk_cell BK1.1 0).trans rfl,(blk_cell BK2.1 0).trans rfl⟩ (fun hHeld=>?_);refine with_tabW laws_FnExactNewFault.tab8 laws_FnExactNewFault.bits8 (fun HT_ HW_=>?_)
   generalize w34.drew = w35 at BK1 BK2 HB hHeld ⊢
   refine pure_ (i:=4) (N:=some 39) (v:=?_) (a':=?_) #[false,false,false,false,true,false,false,false,false,false,false,false,false,false,false] rfl rfl (any_of HT_.out (by kernel_rfl)) (fun _ _ _ h=>h) (Or.inl ⟨by rfl,?_⟩) ?_ ?_
   rotate_left
   ·intro w'
    go_simp
    with_reducible rfl
   rotate_left
   ·simp only [Act.put,s1_,s2_,s3_,i64_w,i32_w]
    rfl
   refine pure_ (i:=5) (N:=some 40) (v:=?_) (a':=?_) #[false,false,false,false,true,true,false,false,false,false,false,false,false,false,false] rfl rfl (any_of HT_.out (by kernel_rfl)) (fun _ _ _ h=>h) (Or.inl ⟨by rfl,?_⟩) ?_ ?_
   rotate_left
   ·intro w'
    go_simp
    with_reducible rfl
   rotate_left
   ·simp only [Act.put,s1_,s2_,s3_,i64_w,i32_w]
    rfl
   refine take_ (i:=0) (N:=some 35) (v:=?_) (a':=?_) #[true,false,false,false,true,true,false,false,false,false,false,false,false,false,false] rfl rfl (take_ofW HT_.out HW_.out (by kernel_rfl)) (fun _ _ _ h=>h) (Or.inl ⟨by rfl,?_⟩) hHeld ?_ ?_
   rotate_left
   ·rintro w' ⟨s0,s1⟩
    go_simp
    with_reducible rfl
   rotate_left
   ·simp only [Act.put,s1_,s2_,s3_,i64_w,i32_w]
    rfl
   refine take_ (i:=2) (N:=some 37) (v:=?_) (a':=?_) #[true,false,true,false,true,true,false,false,false,false,false,false,false,false,false] rfl rfl (take_ofW HT_.out HW_.out (by kernel_rfl)) (fun _ _ _ h=>h) (Or.inl ⟨by rfl,?_⟩) hHeld ?_ ?_
   rotate_left
   ·rintro w' ⟨s0,s1⟩
    go_simp
    with_reducible rfl
   rotate_left
   ·simp only [Act.put,s1_,s2_,s3_,i64_w,i32_w]
    rfl
   refine join_ (σ:=Value × Value × Value × Nat) 3 #[true,true,true,true,true,true,true,true,true,true,true,true,false,false,false] (fun s_=>[(36,.agg #[s_.1]),(38,.agg #[s_.2.1]),(41,.tuple #[.agg #[s_.2.2.1],.int .i64 t14,.bool t15]),(10,.pointer (some ⟨s_.2.2.2,0,none⟩)),(34,.tuple #[.agg #[s_.2.2.1],.int .i64 t14,.bool t15]),(42,.agg #[s_.2.2.1]),(43,.int .i64 t14),(44,.bool t15)]) (fun s_ w'=>(w'.cell? ⟨gb1,0,none⟩ = some (.slice A0_0 l0_0.length c0_0) ∧ w'.cell? ⟨gb2,0,none⟩ = some (.slice A1_0 l1_0.length c1_0)) ∧ (Kd.R k79 79 w' w.heap.size (fun k_=>some k_ ≠ (s_.2.2.1 : Value).ownBlock) s_.2.1 t8) ∧ (Kd.R k79 79 w' w.heap.size (fun k_=>some k_ ≠ (s_.2.1 : Value).ownBlock) s_.2.2.1 t11) ∧ (Kd.R k106 106 w' w.heap.size (fun _=>True) s_.1 t5) ∧ (w'.heap[gb1]? = some (.cells #[.slice A0_0 l0_0.length c0_0] 24 (0,0))) ∧ (w'.heap[s_.2.2.2]? = some (.cells #[.slice none 0 0] 37 (0,0))) ∧ (w'.heap[gb2]? = some (.cells #[.slice A1_0 l1_0.length c1_0] 27 (0,0))) ∧ (w.heap.size ≤ s_.2.2.2) ∧ (w.heap.size ≤ s_.2.2.2) ∧ (gb1 ≠ s_.2.2.2) ∧ (s_.2.2.2 ≠ gb1) ∧ (gb2 ≠ s_.2.2.2) ∧ (s_.2.2.2 ≠ gb2) ∧ (Below w.heap.size w w')) ?_ ?_
   rotate_left
   ·intro hCont
    refine two_ (i:=1) (j:=11) (Ni:=some 36) (Nj:=some 10) #[true,true,true,false,true,true,false,false,false,false,false,false,false,false,false] #[true,false,true,false,true,true,false,false,false,false,false,true,false,false,false] rfl rfl rfl rfl (two_of HT_.out (by kernel_rfl)) (by decide) (by decide) (fun K hK=>?_) (fun K hK=>?_)
    ·skip
     refine goes_ Try.func17 (by kernel_rfl) rfl #[.agg #[.slice A0_0 l0_0.length c0_0]] (by rfl) rfl rfl lm_ ?_
     with_reducible refine (laws_toTree.calls k _ _ l0_0 t5 _ ?side1 ?side2 A21.1).mono ?_
     (case side1=>exact cc_ (C_below HR0_0.1 HB.1))
     (case side2=>exact HC0_0.1)
     rintro e w36 ⟨v6,rfl,ho0,hb⟩
     refine ⟨_,rfl,?_⟩
     have n0_:=a0_ (R_lower ho0 (below_size hb_))
     have n1_:=kb_ BK1 hb
     have n2_:=kb_ BK2 hb
     have n3_:=a0_ (below_step hb_ hb)
     clear BK1
     clear BK2
     clear HB
     have HO7:=n0_
     have BK1:=n1_
     have BK2:=n2_
     have HB:=n3_
     clear n0_ n1_ n2_ n3_
     (try clear hb)
     (try clear hb2)
     (try clear hk)
     (try clear hi)
     (try clear ho0)
     refine hK.out _ _ ⟨(blk_cell BK1.1 0).trans rfl,(blk_cell BK2.1 0).trans rfl⟩ (fun hHeld=>?_)
     clear hK K
     refine norm_ (a':=?_) ?_ ?_
     rotate_left
     ·show Act.put _ (some 36) _ = _
      simp only [Act.put,s1_,s2_,s3_,i64_w,i32_w]
      rfl
     refine two_ (i:=3) (j:=11) (Ni:=some 38) (Nj:=some 10) #[true,true,true,true,true,true,false,false,false,false,false,false,false,false,false] #[true,true,true,false,true,true,false,false,false,false,false,true,false,false,false] rfl rfl rfl rfl (two_of HT_.out (by kernel_rfl)) (by decide) (by decide) (fun K hK=>?_) (fun K hK=>?_)
     ·skip
      refine goes_ Try.func18 (by kernel_rfl) rfl #[.agg #[.slice A1_0 l1_0.length c1_0]] (by rfl) rfl rfl lm_ ?_
      with_reducible refine (laws_toHeap.calls k _ _ l1_0 t8 _ ?side1 ?side2 A22.1).mono ?_
      (case side1=>exact cc_ (C_below HR1_0.1 HB.1))
      (case side2=>exact HC1_0.1)
      rintro e w37 ⟨v9,rfl,ho0,hb⟩
      refine ⟨_,rfl,?_⟩
      have n0_:=rb_ HO7 hb
      have n1_:=a0_ (R_lower ho0 (below_size hb_))
      have n2_:=kb_ BK1 hb
      have n3_:=kb_ BK2 hb
      have n4_:=a0_ (below_step hb_ hb)
      clear HO7
      clear BK1
      clear BK2
      clear HB
      have HO7:=n0_
      have HO10:=n1_
      have BK1:=n2_
      have BK2:=n3_
      have HB:=n4_
      clear n0_ n1_ n2_ n3_ n4_
      (try clear hb)
      (try clear hb2)
      (try clear hk)
      (try clear hi)
      (try clear ho0)
      obtain ⟨Ao38,co38,eo38⟩:=R_slice HO7.1
      (first | subst eo38 | (injection eo38 with f1_ f2_ f3_;have f4_:=f1_.symm;have f5_:=f3_.symm;clear f1_ f2_ f3_;subst f4_;subst f5_))
      obtain ⟨Ao39,co39,eo39⟩:=R_slice HO10.1
      (first | subst eo39 | (injection eo39 with f1_ f2_ f3_;have f4_:=f1_.symm;have f5_:=f3_.symm;clear f1_ f2_ f3_;subst f4_;subst f5_))
      refine hK.out _ _ ⟨(blk_cell BK1.1 0).trans rfl,(blk_cell BK2.1 0).trans rfl⟩ (fun hHeld=>?_)
      clear hK K
      refine norm_ (a':=?_) ?_ ?_
      rotate_left
      ·show Act.put _ (some 38) _ = _
       simp only [Act.put,s1_,s2_,s3_,i64_w,i32_w]
       rfl
      refine two_ (i:=6) (j:=11) (Ni:=some 41) (Nj:=some 10) #[true,true,true,true,true,true,true,false,false,false,false,false,false,false,false] #[true,true,true,true,true,true,false,false,false,false,false,true,false,false,false] rfl rfl rfl rfl (two_of HT_.out (by kernel_rfl)) (by decide) (by decide) (fun K hK=>?_) (fun K hK=>?_)
      ·skip
       refine goes_ Try.func40 (by kernel_rfl) rfl #[.agg #[.slice Ao38 t5.length co38],.agg #[.slice Ao39 t8.length co39],.int .i64 a2,.int .i64 a3] (by rfl) rfl rfl lm_ ?_
       with_reducible refine (spec_NewFault.calls k _ _ t5 _ _ t8 a2 a3 t11 t14 t15 _ ?side1 ?side2 ?side3 ?side4 A23.1).mono ?_
       (case side1=>exact cc_ (R_reads' HO7.1).2.2)
       (case side2=>exact (R_reads' HO7.1).2.1)
       (case side3=>exact cc_ (R_reads' HO10.1).2.2)
       (case side4=>exact (R_reads' HO10.1).2.1)
       rintro e w40 ⟨v12,rfl,ho0,hb⟩
       refine ⟨_,rfl,?_⟩
       have n0_:=rb_ HO7 hb
       have n1_:=a0_ (R_elder' (rr_ HO10.1) (R_base ho0) hb)
       have n2_:=a0_ (R_lower (R_new' ho0 (R_lt (rr_ HO10.1))) (below_size hb_))
       have n3_:=kb_ BK1 hb
       have n4_:=kb_ BK2 hb
       have n5_:=a0_ (below_step hb_ hb)
       clear HO7
       clear HO10
       clear BK1
       clear BK2
       clear HB
       have HO7:=n0_
       have HO10:=n1_
       have HO13:=n2_
       have BK1:=n3_
       have BK2:=n4_
       have HB:=n5_
       clear n0_ n1_ n2_ n3_ n4_ n5_
       (try clear hb)
       (try clear hb2)
       (try clear hk)
       (try clear hi)
       (try clear ho0)
       refine hK.out _ _ ⟨(blk_cell BK1.1 0).trans rfl,(blk_cell BK2.1 0).trans rfl⟩ (fun hHeld=>?_)
       clear hK K
       refine norm_ (a':=?_) ?_ ?_
       rotate_left
       ·show Act.put _ (some 41) _ = _
        simp only [Act.put,s1_,s2_,s3_,i64_w,i32_w]
        rfl
       refine pure_ (i:=7) (N:=some 34) (v:=?_) (a':=?_) #[true,true,true,true,true,true,true,true,false,false,false,false,false,false,false] rfl rfl (any_of HT_.out (by kernel_rfl)) (fun _ _ _ h=>h) (Or.inl ⟨by rfl,?_⟩) ?_ ?_
       rotate_left
       ·intro w'
        go_simp
        with_reducible rfl
       rotate_left
       ·simp only [Act.put,s1_,s2_,s3_,i64_w,i32_w]
        rfl
       refine pure_ (i:=8) (N:=some 42) (v:=?_) (a':=?_) #[true,true,true,true,true,true,true,true,true,false,false,false,false,false,false] rfl rfl (any_of HT_.out (by kernel_rfl)) (fun _ _ _ h=>h) (Or.inl ⟨by rfl,?_⟩) ?_ ?_
       rotate_left
       ·intro w'
        go_simp
        with_reducible rfl
       rotate_left
       ·simp only [Act.put,s1_,s2_,s3_,i64_w,i32_w]
        rfl
       refine pure_ (i:=9) (N:=some 43) (v:=?_) (a':=?_) #[true,true,true,true,true,true,true,true,true,true,false,false,false,false,false] rfl rfl (any_of HT_.out (by kernel_rfl)) (fun _ _ _ h=>h) (Or.inl ⟨by rfl,?_⟩) ?_ ?_
       rotate_left
       ·intro w'
        go_simp
        with_reducible rfl
       rotate_left
       ·simp only [Act.put,s1_,s2_,s3_,i64_w,i32_w]
        rfl
       refine pure_ (i:=10) (N:=some 44) (v:=?_) (a':=?_) #[true,true,true,true,true,true,true,true,true,true,true,false,false,false,false] rfl rfl (any_of HT_.out (by kernel_rfl)) (fun _ _ _ h=>h) (Or.inl ⟨by rfl,?_⟩) ?_ ?_
       rotate_left
       ·intro w'
        go_simp
        with_reducible rfl
       rotate_left
       ·simp only [Act.put,s1_,s2_,s3_,i64_w,i32_w]
        rfl
       refine one_ (i:=11) (N:=some 10) #[true,true,true,true,true,true,true,true,true,true,true,true,false,false,false] rfl rfl (one_of HT_.out (by kernel_rfl)) (by decide) (fun K hK=>?_)
       refine box_step ?hg (N:=10) ?hd (cs:=#[.slice none 0 0]) (t:=37) ?hr ?_;(case hd=>rfl);(case hg=>rfl);(case hr=>first | (go_simp;done) | (go_simp;rfl))
       intro gb16 hg w41 hbox hb
       have n0_:=rb_ HO7 hb
       have n1_:=rb_ HO10 hb
       have n2_:=rb_ HO13 hb
       have n3_:=kb_ BK1 hb
       have n4_:=kb_ BK2 hb
       have n5_:=a0_ (below_step hb_ hb)
       have n6_:=a0_ (hbox)
       have n7_:=a0_ ((by rw [hg];exact (below_size hb_) : w.heap.size ≤ gb16))
       have n8_:=a0_ ((by rw [hg];exact (below_size hb_) : w.heap.size ≤ gb16))
       have n9_:=a0_ ((by rw [hg];exact Nat.ne_of_lt (blk_lt (bb_ BK1.1)) : gb1 ≠ gb16))
       have n10_:=a0_ ((by rw [hg];exact Nat.ne_of_gt (blk_lt (bb_ BK1.1)) : gb16 ≠ gb1))
       have n11_:=a0_ ((by rw [hg];exact Nat.ne_of_lt (blk_lt (bb_ BK2.1)) : gb2 ≠ gb16))
       have n12_:=a0_ ((by rw [hg];exact Nat.ne_of_gt (blk_lt (bb_ BK2.1)) : gb16 ≠ gb2))
       clear HO7
       clear HO10
       clear HO13
       clear BK1
       clear BK2
       clear HB
       have HO7:=n0_
       have HO10:=n1_
       have HO13:=n2_
       have BK1:=n3_
       have BK2:=n4_
       have HB:=n5_
       have BK16:=n6_
       have GW16:=n7_
       have GE16:=n8_
       have NB1_16:=n9_
       have NB16_1:=n10_
       have NB2_16:=n11_
       have NB16_2:=n12_
       clear n0_ n1_ n2_ n3_ n4_ n5_ n6_ n7_ n8_ n9_ n10_ n11_ n12_
       clear hb hbox hg
       refine hK.out _ _ ⟨(blk_cell BK1.1 0).trans rfl,(blk_cell BK2.1 0).trans rfl⟩ (fun hHeld=>?_)
       clear hK K
       refine norm_ (a':=?_) ?_ ?_
       rotate_left
       ·show Act.put _ (some 10) _ = _
        simp only [Act.put,s1_,s2_,s3_,i64_w,i32_w]
        rfl
       exact norm_ (by simp only [putAll,Act.put,s1_,s2_,s3_]) (hCont (.slice Ao38 t5.length co38,.slice Ao39 t8.length co39,v12,gb16) _ ⟨hHeld,(rm_ HO10.1 (fun _ hk=>hk.2)),(rm_ HO13.1 (fun _ hk=>hk.2)),(rr_ HO7.1),(bb_ BK1.1),(bb_ BK16.1),(bb_ BK2.1),GW16.1,GE16.1,NB1_16.1,NB16_1.1,NB2_16.1,NB16_2.1,hb_⟩)
      ·skip
       refine box_step ?hg (N:=10) ?hd (cs:=#[.slice none 0 0]) (t:=37) ?hr ?_;(case hd=>rfl);(case hg=>rfl);(case hr=>first | (go_simp;done) | (go_simp;rfl))
       intro gb16 hg w38 hbox hb
       have n0_:=rb_ HO7 hb
       have n1_:=rb_ HO10 hb
       have n2_:=kb_ BK1 hb
       have n3_:=kb_ BK2 hb
       have n4_:=a0_ (below_step hb_ hb)
       have n5_:=a0_ (hbox)
       have n6_:=a0_ ((by rw [hg];exact (below_size hb_) : w.heap.size ≤ gb16))
       have n7_:=a0_ ((by rw [hg];exact (below_size hb_) : w.heap.size ≤ gb16))
       have n8_:=a0_ ((by rw [hg];exact Nat.ne_of_lt (blk_lt (bb_ BK1.1)) : gb1 ≠ gb16))
       have n9_:=a0_ ((by rw [hg];exact Nat.ne_of_gt (blk_lt (bb_ BK1.1)) : gb16 ≠ gb1))
       have n10_:=a0_ ((by rw [hg];exact Nat.ne_of_lt (blk_lt (bb_ BK2.1)) : gb2 ≠ gb16))
       have n11_:=a0_ ((by rw [hg];exact Nat.ne_of_gt (blk_lt (bb_ BK2.1)) : gb16 ≠ gb2))
       clear HO7
       clear HO10
       clear BK1
       clear BK2
       clear HB
       have HO7:=n0_
       have HO10:=n1_
       have BK1:=n2_
       have BK2:=n3_
       have HB:=n4_
       have BK16:=n5_
       have GW16:=n6_
       have GE16:=n7_
       have NB1_16:=n8_
       have NB16_1:=n9_
       have NB2_16:=n10_
       have NB16_2:=n11_
       clear n0_ n1_ n2_ n3_ n4_ n5_ n6_ n7_ n8_ n9_ n10_ n11_
       clear hb hbox hg
       obtain ⟨Ao39,co39,eo39⟩:=R_slice HO7.1
       (first | subst eo39 | (injection eo39 with f1_ f2_ f3_;have f4_:=f1_.symm;have f5_:=f3_.symm;clear f1_ f2_ f3_;subst f4_;subst f5_))
       obtain ⟨Ao40,co40,eo40⟩:=R_slice HO10.1
       (first | subst eo40 | (injection eo40 with f1_ f2_ f3_;have f4_:=f1_.symm;have f5_:=f3_.symm;clear f1_ f2_ f3_;subst f4_;subst f5_))
       refine hK.out _ _ ⟨(blk_cell BK1.1 0).trans rfl,(blk_cell BK2.1 0).trans rfl⟩ (fun hHeld=>?_)
       clear hK K
       refine norm_ (a':=?_) ?_ ?_
       rotate_left
       ·show Act.put _ (some 10) _ = _
        simp only [Act.put,s1_,s2_,s3_,i64_w,i32_w]
        rfl
       refine one_ (i:=6) (N:=some 41) #[true,true,true,true,true,true,true,false,false,false,false,true,false,false,false] rfl rfl (one_of HT_.out (by kernel_rfl)) (by decide) (fun K hK=>?_)
       refine goes_ Try.func40 (by kernel_rfl) rfl #[.agg #[.slice Ao39 t5.length co39],.agg #[.slice Ao40 t8.length co40],.int .i64 a2,.int .i64 a3] (by rfl) rfl rfl lm_ ?_
       with_reducible refine (spec_NewFault.calls k _ _ t5 _ _ t8 a2 a3 t11 t14 t15 _ ?side1 ?side2 ?side3 ?side4 A23.1).mono ?_
       (case side1=>exact cc_ (R_reads' HO7.1).2.2)
       (case side2=>exact (R_reads' HO7.1).2.1)
       (case side3=>exact cc_ (R_reads' HO10.1).2.2)
       (case side4=>exact (R_reads' HO10.1).2.1)
       rintro e w41 ⟨v12,rfl,ho0,hb⟩
       refine ⟨_,rfl,?_⟩
       have n0_:=rb_ HO7 hb
       have n1_:=a0_ (R_elder' (rr_ HO10.1) (R_base ho0) hb)
       have n2_:=a0_ (R_lower (R_new' ho0 (R_lt (rr_ HO10.1))) (below_size hb_))
       have n3_:=kb_ BK1 hb
       have n4_:=kb_ BK2 hb
       have n5_:=kb_ BK16 hb
       have n6_:=a0_ (below_step hb_ hb)
       clear HO7
       clear HO10
       clear BK1
       clear BK2
       clear BK16
       clear HB
       have HO7:=n0_
       have HO10:=n1_
       have HO13:=n2_
       have BK1:=n3_
       have BK2:=n4_
       have BK16:=n5_
       have HB:=n6_
       clear n0_ n1_ n2_ n3_ n4_ n5_ n6_
       (try clear hb)
       (try clear hb2)
       (try clear hk)
       (try clear hi)
       (try clear ho0)
       refine hK.out _ _ ⟨(blk_cell BK1.1 0).trans rfl,(blk_cell BK2.1 0).trans rfl⟩ (fun hHeld=>?_)
       clear hK K
       refine norm_ (a':=?_) ?_ ?_
       rotate_left
       ·show Act.put _ (some 41) _ = _
        simp only [Act.put,s1_,s2_,s3_,i64_w,i32_w]
        rfl
       refine pure_ (i:=7) (N:=some 34) (v:=?_) (a':=?_) #[true,true,true,true,true,true,true,true,false,false,false,true,false,false,false] rfl rfl (any_of HT_.out (by kernel_rfl)) (fun _ _ _ h=>h) (Or.inl ⟨by rfl,?_⟩) ?_ ?_
       rotate_left
       ·intro w'
        go_simp
        with_reducible rfl
       rotate_left
       ·simp only [Act.put,s1_,s2_,s3_,i64_w,i32_w]
        rfl
       refine pure_ (i:=8) (N:=some 42) (v:=?_) (a':=?_) #[true,true,true,true,true,true,true,true,true,false,false,true,false,false,false] rfl rfl (any_of HT_.out (by kernel_rfl)) (fun _ _ _ h=>h) (Or.inl ⟨by rfl,?_⟩) ?_ ?_
       rotate_left
       ·intro w'
        go_simp
        with_reducible rfl
       rotate_left
       ·simp only [Act.put,s1_,s2_,s3_,i64_w,i32_w]
        rfl
       refine pure_ (i:=9) (N:=some 43) (v:=?_) (a':=?_) #[true,true,true,true,true,true,true,true,true,true,false,true,false,false,false] rfl rfl (any_of HT_.out (by kernel_rfl)) (fun _ _ _ h=>h) (Or.inl ⟨by rfl,?_⟩) ?_ ?_
       rotate_left
       ·intro w'
        go_simp
        with_reducible rfl
       rotate_left
       ·simp only [Act.put,s1_,s2_,s3_,i64_w,i32_w]
        rfl
       refine pure_ (i:=10) (N:=some 44) (v:=?_) (a':=?_) #[true,true,true,true,true,true,true,true,true,true,true,true,false,false,false] rfl rfl (any_of HT_.out (by kernel_rfl)) (fun _ _ _ h=>h) (Or.inl ⟨by rfl,?_⟩) ?_ ?_
       rotate_left
       ·intro w'
        go_simp
        with_reducible rfl
       rotate_left
       ·simp only [Act.put,s1_,s2_,s3_,i64_w,i32_w]
        rfl
       exact norm_ (by simp only [putAll,Act.put,s1_,s2_,s3_]) (hCont (.slice Ao39 t5.length co39,.slice Ao40 t8.length co40,v12,gb16) _ ⟨hHeld,(rm_ HO10.1 (fun _ hk=>hk.2)),(rm_ HO13.1 (fun _ hk=>hk.2)),(rr_ HO7.1),(bb_ BK1.1),(bb_ BK16.1),(bb_ BK2.1),GW16.1,GE16.1,NB1_16.1,NB16_1.1,NB2_16.1,NB16_2.1,hb_⟩)
     ·skip
      refine box_step ?hg (N:=10) ?hd (cs:=#[.slice none 0 0]) (t:=37) ?hr ?_;(case hd=>rfl);(case hg=>rfl);(case hr=>first | (go_simp;done) | (go_simp;rfl))
      intro gb16 hg w37 hbox hb
      have n0_:=rb_ HO7 hb
      have n1_:=kb_ BK1 hb
      have n2_:=kb_ BK2 hb
      have n3_:=a0_ (below_step hb_ hb)
      have n4_:=a0_ (hbox)
      have n5_:=a0_ ((by rw [hg];exact (below_size hb_) : w.heap.size ≤ gb16))
      have n6_:=a0_ ((by rw [hg];exact (below_size hb_) : w.heap.size ≤ gb16))
      have n7_:=a0_ ((by rw [hg];exact Nat.ne_of_lt (blk_lt (bb_ BK1.1)) : gb1 ≠ gb16))
      have n8_:=a0_ ((by rw [hg];exact Nat.ne_of_gt (blk_lt (bb_ BK1.1)) : gb16 ≠ gb1))
      have n9_:=a0_ ((by rw [hg];exact Nat.ne_of_lt (blk_lt (bb_ BK2.1)) : gb2 ≠ gb16))
      have n10_:=a0_ ((by rw [hg];exact Nat.ne_of_gt (blk_lt (bb_ BK2.1)) : gb16 ≠ gb2))
      clear HO7
      clear BK1
      clear BK2
      clear HB
      have HO7:=n0_
      have BK1:=n1_
      have BK2:=n2_
      have HB:=n3_
      have BK16:=n4_
      have GW16:=n5_
      have GE16:=n6_
      have NB1_16:=n7_
      have NB16_1:=n8_
      have NB2_16:=n9_
      have NB16_2:=n10_
      clear n0_ n1_ n2_ n3_ n4_ n5_ n6_ n7_ n8_ n9_ n10_
      clear hb hbox hg
      refine hK.out _ _ ⟨(blk_cell BK1.1 0).trans rfl,(blk_cell BK2.1 0).trans rfl⟩ (fun hHeld=>?_)
      clear hK K
      refine norm_ (a':=?_) ?_ ?_
      rotate_left
      ·show Act.put _ (some 10) _ = _
       simp only [Act.put,s1_,s2_,s3_,i64_w,i32_w]
       rfl
      refine one_ (i:=3) (N:=some 38) #[true,true,true,true,true,true,false,false,false,false,false,true,false,false,false] rfl rfl (one_of HT_.out (by kernel_rfl)) (by decide) (fun K hK=>?_)
      refine goes_ Try.func18 (by kernel_rfl) rfl #[.agg #[.slice A1_0 l1_0.length c1_0]] (by rfl) rfl rfl lm_ ?_
      with_reducible refine (laws_toHeap.calls k _ _ l1_0 t8 _ ?side1 ?side2 A22.1).mono ?_
      (case side1=>exact cc_ (C_below HR1_0.1 HB.1))
      (case side2=>exact HC1_0.1)
      rintro e w38 ⟨v9,rfl,ho0,hb⟩
      refine ⟨_,rfl,?_⟩
      have n0_:=rb_ HO7 hb
      have n1_:=a0_ (R_lower ho0 (below_size hb_))
      have n2_:=kb_ BK1 hb
      have n3_:=kb_ BK2 hb
      have n4_:=kb_ BK16 hb
      have n5_:=a0_ (below_step hb_ hb)
      clear HO7
      clear BK1
      clear BK2
      clear BK16
      clear HB
      have HO7:=n0_
      have HO10:=n1_
      have BK1:=n2_
      have BK2:=n3_
      have BK16:=n4_
      have HB:=n5_
      clear n0_ n1_ n2_ n3_ n4_ n5_
      (try clear hb)
      (try clear hb2)
      (try clear hk)
      (try clear hi)
      (try clear ho0)
      obtain ⟨Ao39,co39,eo39⟩:=R_slice HO7.1
      (first | subst eo39 | (injection eo39 with f1_ f2_ f3_;have f4_:=f1_.symm;have f5_:=f3_.symm;clear f1_ f2_ f3_;subst f4_;subst f5_))
      obtain ⟨Ao40,co40,eo40⟩:=R_slice HO10.1
      (first | subst eo40 | (injection eo40 with f1_ f2_ f3_;have f4_:=f1_.symm;have f5_:=f3_.symm;clear f1_ f2_ f3_;subst f4_;subst f5_))
      refine hK.out _ _ ⟨(blk_cell BK1.1 0).trans rfl,(blk_cell BK2.1 0).trans rfl⟩ (fun hHeld=>?_)
      clear hK K
      refine norm_ (a':=?_) ?_ ?_
      rotate_left
      ·show Act.put _ (some 38) _ = _
       simp only [Act.put,s1_,s2_,s3_,i64_w,i32_w]
       rfl
      refine one_ (i:=6) (N:=some 41) #[true,true,true,true,true,true,true,false,false,false,false,true,false,false,false] rfl rfl (one_of HT_.out (by kernel_rfl)) (by decide) (fun K hK=>?_)
      refine goes_ Try.func40 (by kernel_rfl) rfl #[.agg #[.slice Ao39 t5.length co39],.agg #[.slice Ao40 t8.length co40],.int .i64 a2,.int .i64 a3] (by rfl) rfl rfl lm_ ?_
      with_reducible refine (spec_NewFault.calls k _ _ t5 _ _ t8 a2 a3 t11 t14 t15 _ ?side1 ?side2 ?side3 ?side4 A23.1).mono ?_
      (case side1=>exact cc_ (R_reads' HO7.1).2.2)
      (case side2=>exact (R_reads' HO7.1).2.1)
      (case side3=>exact cc_ (R_reads' HO10.1).2.2)
      (case side4=>exact (R_reads' HO10.1).2.1)
      rintro e w41 ⟨v12,rfl,ho0,hb⟩
      refine ⟨_,rfl,?_⟩
      have n0_:=rb_ HO7 hb
      have n1_:=a0_ (R_elder' (rr_ HO10.1) (R_base ho0) hb)
      have n2_:=a0_ (R_lower (R_new' ho0 (R_lt (rr_ HO10.1))) (below_size hb_))
      have n3_:=kb_ BK1 hb
      have n4_:=kb_ BK2 hb
      have n5_:=kb_ BK16 hb
      have n6_:=a0_ (below_step hb_ hb)
      clear HO7
      clear HO10
      clear BK1
      clear BK2
      clear BK16
      clear HB
      have HO7:=n0_
      have HO10:=n1_
      have HO13:=n2_
      have BK1:=n3_
      have BK2:=n4_
      have BK16:=n5_
      have HB:=n6_
      clear n0_ n1_ n2_ n3_ n4_ n5_ n6_
      (try clear hb)
      (try clear hb2)
      (try clear hk)
      (try clear hi)
      (try clear ho0)
      refine hK.out _ _ ⟨(blk_cell BK1.1 0).trans rfl,(blk_cell BK2.1 0).trans rfl⟩ (fun hHeld=>?_)
      clear hK K
      refine norm_ (a':=?_) ?_ ?_
      rotate_left
      ·show Act.put _ (some 41) _ = _
       simp only [Act.put,s1_,s2_,s3_,i64_w,i32_w]
       rfl
      refine pure_ (i:=7) (N:=some 34) (v:=?_) (a':=?_) #[true,true,true,true,true,true,true,true,false,false,false,true,false,false,false] rfl rfl (any_of HT_.out (by kernel_rfl)) (fun _ _ _ h=>h) (Or.inl ⟨by rfl,?_⟩) ?_ ?_
      rotate_left
      ·intro w'
       go_simp
       with_reducible rfl
      rotate_left
      ·simp only [Act.put,s1_,s2_,s3_,i64_w,i32_w]
       rfl
      refine pure_ (i:=8) (N:=some 42) (v:=?_) (a':=?_) #[true,true,true,true,true,true,true,true,true,false,false,true,false,false,false] rfl rfl (any_of HT_.out (by kernel_rfl)) (fun _ _ _ h=>h) (Or.inl ⟨by rfl,?_⟩) ?_ ?_
      rotate_left
      ·intro w'
       go_simp
       with_reducible rfl
      rotate_left
      ·simp only [Act.put,s1_,s2_,s3_,i64_w,i32_w]
       rfl
      refine pure_ (i:=9) (N:=some 43) (v:=?_) (a':=?_) #[true,true,true,true,true,true,true,true,true,true,false,true,false,false,false] rfl rfl (any_of HT_.out (by kernel_rfl)) (fun _ _ _ h=>h) (Or.inl ⟨by rfl,?_⟩) ?_ ?_
      rotate_left
      ·intro w'
       go_simp
       with_reducible rfl
      rotate_left
      ·simp only [Act.put,s1_,s2_,s3_,i64_w,i32_w]
       rfl
      refine pure_ (i:=10) (N:=some 44) (v:=?_) (a':=?_) #[true,true,true,true,true,true,true,true,true,true,true,true,false,false,false] rfl rfl (any_of HT_.out (by kernel_rfl)) (fun _ _ _ h=>h) (Or.inl ⟨by rfl,?_⟩) ?_ ?_
      rotate_left
      ·intro w'
       go_simp
       with_reducible rfl
      rotate_left
      ·simp only [Act.put,s1_,s2_,s3_,i64_w,i32_w]
       rfl
      exact norm_ (by simp only [putAll,Act.put,s1_,s2_,s3_]) (hCont (.slice Ao39 t5.length co39,.slice Ao40 t8.length co40,v12,gb16) _ ⟨hHeld,(rm_ HO10.1 (fun _ hk=>hk.2)),(rm_ HO13.1 (fun _ hk=>hk.2)),(rr_ HO7.1),(bb_ BK1.1),(bb_ BK16.1),(bb_ BK2.1),GW16.1,GE16.1,NB1_16.1,NB16_1.1,NB2_16.1,NB16_2.1,hb_⟩)
    ·skip
     refine box_step ?hg (N:=10) ?hd (cs:=#[.slice none 0 0]) (t:=37) ?hr ?_;(case hd=>rfl);(case hg=>rfl);(case hr=>first | (go_simp;done) | (go_simp;rfl))
     intro gb16 hg w36 hbox hb
     have n0_:=kb_ BK1 hb
     have n1_:=kb_ BK2 hb
     have n2_:=a0_ (below_step hb_ hb)
     have n3_:=a0_ (hbox)
     have n4_:=a0_ ((by rw [hg];exact (below_size hb_) : w.heap.size ≤ gb16))
     have n5_:=a0_ ((by rw [hg];exact (below_size hb_) : w.heap.size ≤ gb16))
     have n6_:=a0_ ((by rw [hg];exact Nat.ne_of_lt (blk_lt (bb_ BK1.1)) : gb1 ≠ gb16))
     have n7_:=a0_ ((by rw [hg];exact Nat.ne_of_gt (blk_lt (bb_ BK1.1)) : gb16 ≠ gb1))
     have n8_:=a0_ ((by rw [hg];exact Nat.ne_of_lt (blk_lt (bb_ BK2.1)) : gb2 ≠ gb16))
     have n9_:=a0_ ((by rw [hg];exact Nat.ne_of_gt (blk_lt (bb_ BK2.1)) : gb16 ≠ gb2))
     clear BK1
     clear BK2
     clear HB
     have BK1:=n0_
     have BK2:=n1_
     have HB:=n2_
     have BK16:=n3_
     have GW16:=n4_
     have GE16:=n5_
     have NB1_16:=n6_
     have NB16_1:=n7_
     have NB2_16:=n8_
     have NB16_2:=n9_
     clear n0_ n1_ n2_ n3_ n4_ n5_ n6_ n7_ n8_ n9_
     clear hb hbox hg
     refine hK.out _ _ ⟨(blk_cell BK1.1 0).trans rfl,(blk_cell BK2.1 0).trans rfl⟩ (fun hHeld=>?_)
     clear hK K
     refine norm_ (a':=?_) ?_ ?_
     rotate_left
     ·show Act.put _ (some 10) _ = _
      simp only [Act.put,s1_,s2_,s3_,i64_w,i32_w]
      rfl
     refine one_ (i:=1) (N:=some 36) #[true,true,true,false,true,true,false,false,false,false,false,true,false,false,false] rfl rfl (one_of HT_.out (by kernel_rfl)) (by decide) (fun K hK=>?_)
     refine goes_ Try.func17 (by kernel_rfl) rfl #[.agg #[.slice A0_0 l0_0.length c0_0]] (by rfl) rfl rfl lm_ ?_
     with_reducible refine (laws_toTree.calls k _ _ l0_0 t5 _ ?side1 ?side2 A21.1).mono ?_
     (case side1=>exact cc_ (C_below HR0_0.1 HB.1))
     (case side2=>exact HC0_0.1)
     rintro e w37 ⟨v6,rfl,ho0,hb⟩
     refine ⟨_,rfl,?_⟩
     have n0_:=a0_ (R_lower ho0 (below_size hb_))
     have n1_:=kb_ BK1 hb
     have n2_:=kb_ BK2 hb
     have n3_:=kb_ BK16 hb
     have n4_:=a0_ (below_step hb_ hb)
     clear BK1
     clear BK2
     clear BK16
     clear HB
     have HO7:=n0_
     have BK1:=n1_
     have BK2:=n2_
     have BK16:=n3_
     have HB:=n4_
     clear n0_ n1_ n2_ n3_ n4_
     (try clear hb)
     (try clear hb2)
     (try clear hk)
     (try clear hi)
     (try clear ho0)
     refine hK.out _ _ ⟨(blk_cell BK1.1 0).trans rfl,(blk_cell BK2.1 0).trans rfl⟩ (fun hHeld=>?_)
     clear hK K
     refine norm_ (a':=?_) ?_ ?_
     rotate_left
     ·show Act.put _ (some 36) _ = _
      simp only [Act.put,s1_,s2_,s3_,i64_w,i32_w]
      rfl
     refine one_ (i:=3) (N:=some 38) #[true,true,true,true,true,true,false,false,false,false,false,true,false,false,false] rfl rfl (one_of HT_.out (by kernel_rfl)) (by decide) (fun K hK=>?_)
     refine goes_ Try.func18 (by kernel_rfl) rfl #[.agg #[.slice A1_0 l1_0.length c1_0]] (by rfl) rfl rfl lm_ ?_
     with_reducible refine (laws_toHeap.calls k _ _ l1_0 t8 _ ?side1 ?side2 A22.1).mono ?_
     (case side1=>exact cc_ (C_below HR1_0.1 HB.1))
     (case side2=>exact HC1_0.1)
     rintro e w38 ⟨v9,rfl,ho0,hb⟩
     refine ⟨_,rfl,?_⟩
     have n0_:=rb_ HO7 hb
     have n1_:=a0_ (R_lower ho0 (below_size hb_))
     have n2_:=kb_ BK1 hb
     have n3_:=kb_ BK2 hb
     have n4_:=kb_ BK16 hb
     have n5_:=a0_ (below_step hb_ hb)
     clear HO7
     clear BK1
     clear BK2
     clear BK16
     clear HB
     have HO7:=n0_
     have HO10:=n1_
     have BK1:=n2_
     have BK2:=n3_
     have BK16:=n4_
     have HB:=n5_
     clear n0_ n1_ n2_ n3_ n4_ n5_
     (try clear hb)
     (try clear hb2)
     (try clear hk)
     (try clear hi)
     (try clear ho0)
     obtain ⟨Ao39,co39,eo39⟩:=R_slice HO7.1
     (first | subst eo39 | (injection eo39 with f1_ f2_ f3_;have f4_:=f1_.symm;have f5_:=f3_.symm;clear f1_ f2_ f3_;subst f4_;subst f5_))
     obtain ⟨Ao40,co40,eo40⟩:=R_slice HO10.1
     (first | subst eo40 | (injection eo40 with f1_ f2_ f3_;have f4_:=f1_.symm;have f5_:=f3_.symm;clear f1_ f2_ f3_;subst f4_;subst f5_))
     refine hK.out _ _ ⟨(blk_cell BK1.1 0).trans rfl,(blk_cell BK2.1 0).trans rfl⟩ (fun hHeld=>?_)
     clear hK K
     refine norm_ (a':=?_) ?_ ?_
     rotate_left
     ·show Act.put _ (some 38) _ = _
      simp only [Act.put,s1_,s2_,s3_,i64_w,i32_w]
      rfl
     refine one_ (i:=6) (N:=some 41) #[true,true,true,true,true,true,true,false,false,false,false,true,false,false,false] rfl rfl (one_of HT_.out (by kernel_rfl)) (by decide) (fun K hK=>?_)
     refine goes_ Try.func40 (by kernel_rfl) rfl #[.agg #[.slice Ao39 t5.length co39],.agg #[.slice Ao40 t8.length co40],.int .i64 a2,.int .i64 a3] (by rfl) rfl rfl lm_ ?_
     with_reducible refine (spec_NewFault.calls k _ _ t5 _ _ t8 a2 a3 t11 t14 t15 _ ?side1 ?side2 ?side3 ?side4 A23.1).mono ?_
     (case side1=>exact cc_ (R_reads' HO7.1).2.2)
     (case side2=>exact (R_reads' HO7.1).2.1)
     (case side3=>exact cc_ (R_reads' HO10.1).2.2)
     (case side4=>exact (R_reads' HO10.1).2.1)
     rintro e w41 ⟨v12,rfl,ho0,hb⟩
     refine ⟨_,rfl,?_⟩
     have n0_:=rb_ HO7 hb
     have n1_:=a0_ (R_elder' (rr_ HO10.1) (R_base ho0) hb)
     have n2_:=a0_ (R_lower (R_new' ho0 (R_lt (rr_ HO10.1))) (below_size hb_))
     have n3_:=kb_ BK1 hb
     have n4_:=kb_ BK2 hb
     have n5_:=kb_ BK16 hb
     have n6_:=a0_ (below_step hb_ hb)
     clear HO7
     clear HO10
     clear BK1
     clear BK2
     clear BK16
     clear HB
     have HO7:=n0_
     have HO10:=n1_
     have HO13:=n2_
     have BK1:=n3_
     have BK2:=n4_
     have BK16:=n5_
     have HB:=n6_
     clear n0_ n1_ n2_ n3_ n4_ n5_ n6_
     (try clear hb)
     (try clear hb2)
     (try clear hk)
     (try clear hi)
     (try clear ho0)
     refine hK.out _ _ ⟨(blk_cell BK1.1 0).trans rfl,(blk_cell BK2.1 0).trans rfl⟩ (fun hHeld=>?_)
     clear hK K
     refine norm_ (a':=?_) ?_ ?_
     rotate_left
     ·show Act.put _ (some 41) _ = _
      simp only [Act.put,s1_,s2_,s3_,i64_w,i32_w]
      rfl
     refine pure_ (i:=7) (N:=some 34) (v:=?_) (a':=?_) #[true,true,true,true,true,true,true,true,false,false,false,true,false,false,false] rfl rfl (any_of HT_.out (by kernel_rfl)) (fun _ _ _ h=>h) (Or.inl ⟨by rfl,?_⟩) ?_ ?_
     rotate_left
     ·intro w'
      go_simp
      with_reducible rfl
     rotate_left
     ·simp only [Act.put,s1_,s2_,s3_,i64_w,i32_w]
      rfl
     refine pure_ (i:=8) (N:=some 42) (v:=?_) (a':=?_) #[true,true,true,true,true,true,true,true,true,false,false,true,false,false,false] rfl rfl (any_of HT_.out (by kernel_rfl)) (fun _ _ _ h=>h) (Or.inl ⟨by rfl,?_⟩) ?_ ?_
     rotate_left
     ·intro w'
      go_simp
      with_reducible rfl
     rotate_left
     ·simp only [Act.put,s1_,s2_,s3_,i64_w,i32_w]
      rfl
     refine pure_ (i:=9) (N:=some 43) (v:=?_) (a':=?_) #[true,true,true,true,true,true,true,true,true,true,false,true,false,false,false] rfl rfl (any_of HT_.out (by kernel_rfl)) (fun _ _ _ h=>h) (Or.inl ⟨by rfl,?_⟩) ?_ ?_
     rotate_left
     ·intro w'
      go_simp
      with_reducible rfl
     rotate_left
     ·simp only [Act.put,s1_,s2_,s3_,i64_w,i32_w]
      rfl
     refine pure_ (i:=10) (N:=some 44) (v:=?_) (a':=?_) #[true,true,true,true,true,true,true,true,true,true,true,true,false,false,false] rfl rfl (any_of HT_.out (by kernel_rfl)) (fun _ _ _ h=>h) (Or.inl ⟨by rfl,?_⟩) ?_ ?_
     rotate_left
     ·intro w'
      go_simp
      with_reducible rfl
     rotate_left
     ·simp only [Act.put,s1_,s2_,s3_,i64_w,i32_w]
      rfl
     exact norm_ (by simp only [putAll,Act.put,s1_,s2_,s3_]) (hCont (.slice Ao39 t5.length co39,.slice Ao40 t8.length co40,v12,gb16) _ ⟨hHeld,(rm_ HO10.1 (fun _ hk=>hk.2)),(rm_ HO13.1 (fun _ hk=>hk.2)),(rr_ HO7.1),(bb_ BK1.1),(bb_ BK16.1),(bb_ BK2.1),GW16.1,GE16.1,NB1_16.1,NB16_1.1,NB2_16.1,NB16_2.1,hb_⟩)
   rintro ⟨v6,v9,v12,gb16⟩ w42 ⟨hS_,h0_,h1_,h2_,h3_,h4_,h5_,h6_,h7_,h8_,h9_,h10_,h11_,h12_⟩
   have n0_ : Aside0 (Kd.R k79 79 w42 w.heap.size (fun k_=>some k_ ≠ (v12 : Value).ownBlock) v9 t8):=⟨h0_⟩
   have n1_ : Aside0 (Kd.R k79 79 w42 w.heap.size (fun k_=>some k_ ≠ (v9 : Value).ownBlock) v12 t11):=⟨h1_⟩
   have n2_ : Aside0 (Kd.R k106 106 w42 w.heap.size (fun _=>True) v6 t5):=⟨h2_⟩
   have n3_ : Aside0 (w42.heap[gb1]? = some (.cells #[.slice A0_0 l0_0.length c0_0] 24 (0,0))):=⟨h3_⟩
   have n4_ : Aside0 (w42.heap[gb16]? = some (.cells #[.slice none 0 0] 37 (0,0))):=⟨h4_⟩
   have n5_ : Aside0 (w42.heap[gb2]? = some (.cells #[.slice A1_0 l1_0.length c1_0] 27 (0,0))):=⟨h5_⟩
   have n6_ : Aside0 (w.heap.size ≤ gb16):=⟨h6_⟩
   have n7_ : Aside0 (w.heap.size ≤ gb16):=⟨h7_⟩
   have n8_ : Aside0 (gb1 ≠ gb16):=⟨h8_⟩
   have n9_ : Aside0 (gb16 ≠ gb1):=⟨h9_⟩
   have n10_ : Aside0 (gb2 ≠ gb16):=⟨h10_⟩
   have n11_ : Aside0 (gb16 ≠ gb2):=⟨h11_⟩
   have n12_ : Aside0 (Below w.heap.size w w42):=⟨h12_⟩
   clear BK1
   clear BK2
   clear HB
   clear h0_ h1_ h2_ h3_ h4_ h5_ h6_ h7_ h8_ h9_ h10_ h11_ h12_
   have HO10:=n0_
   have HO13:=n1_
   have HO7:=n2_
   have BK1:=n3_
   have BK16:=n4_
   have BK2:=n5_
   have GW16:=n6_
   have GE16:=n7_
   have NB1_16:=n8_
   have NB16_1:=n9_
   have NB2_16:=n10_
   have NB16_2:=n11_
   have HB:=n12_
   clear n0_ n1_ n2_ n3_ n4_ n5_ n6_ n7_ n8_ n9_ n10_ n11_ n12_
   have hHeld : w42.cell? ⟨gb1,0,none⟩ = some (.slice A0_0 l0_0.length c0_0) ∧ w42.cell? ⟨gb2,0,none⟩ = some (.slice A1_0 l1_0.length c1_0):=hS_
   obtain ⟨Ao43,co43,eo43⟩:=R_slice HO13.1
   (first | subst eo43 | (injection eo43 with f1_ f2_ f3_;have f4_:=f1_.symm;have f5_:=f3_.symm;clear f1_ f2_ f3_;subst f4_;subst f5_))
   refine norm_ (a':=?_) ?_ ?_
   rotate_left
   ·simp only [putAll,Act.put,s1_,s2_,s3_]
    rfl
   refine one_ (i:=12) (N:=none) #[true,true,true,true,true,true,true,true,true,true,true,true,true,false,false] rfl rfl (one_of HT_.out (by kernel_rfl)) (by decide) (fun K hK=>?_)
   have hs44 : w42.cell? ⟨gb16,0,none⟩ = some (.slice none 0 0):=(blk_cell BK16.1 0).trans rfl
   have hfs44:=blk_frozen BK16.1 0
   have hns44_0:=NB1_16.1
   have hns44_1:=NB2_16.1
   have hms44_0:=NB16_1.1
   have hms44_1:=NB16_2.1
   refine skip_ (w1:=?_) (by rfl) rfl ?_ ?_
   rotate_left
   ·go_simp
    rfl
   refine hK.out _ _ ⟨((cell_far (p:=⟨gb16,_,none⟩) NB1_16.1 _).trans (hHeld.1)),((cell_far (p:=⟨gb16,_,none⟩) NB2_16.1 _).trans (hHeld.2))⟩ (fun hHeld=>?_)
   clear hK K
   refine pure_ (i:=13) (N:=some 11) (v:=?_) (a':=?_) #[true,true,true,true,true,true,true,true,true,true,true,true,true,true,false] rfl rfl (any_of HT_.out (by kernel_rfl)) (fun _ _ _ h=>h) (Or.inl ⟨by rfl,?_⟩) ?_ ?_
   rotate_left
   ·intro w'
    go_simp
    with_reducible rfl
   rotate_left
   ·simp only [Act.put,s1_,s2_,s3_,i64_w,i32_w]
    rfl
   refine pure_ (i:=14) (N:=some 12) (v:=?_) (a':=?_) #[true,true,true,true,true,true,true,true,true,true,true,true,true,true,true] rfl rfl (any_of HT_.out (by kernel_rfl)) (fun _ _ _ h=>h) (Or.inl ⟨by rfl,?_⟩) ?_ ?_
   rotate_left
   ·intro w'
    go_simp
    with_reducible rfl
   rotate_left
   ·simp only [Act.put,s1_,s2_,s3_,i64_w,i32_w]
    rfl
   refine done_ (done_of HT_.out (by kernel_rfl)) ?_
   have hnb45:=NB1_16.1
   have hnc45:=NB16_1.1
   have hcz46_0 : w42.cell? ⟨gb1,0,none⟩ = some (.slice A0_0 l0_0.length c0_0):=(blk_cell BK1.1 0).trans rfl
   have hfz46_0:=blk_frozen BK1.1 0
   go_upto_region 12 with (first | ((with_reducible refine gate_callee (f:=17) rfl ?_);refine goesL_ (some 46) rfl rfl Try.func17 (by kernel_rfl) rfl #[.agg #[.slice A0_0 l0_0.length c0_0]] rfl lm_ ?_;(with_reducible refine (laws_toTree.calls k _ _ l0_0 t17 _ ?side1 ?side2 A24.1).mono ?_);(case side1=>exact C_below HR0_0.1 hb_);(case side2=>exact HC0_0.1);rintro e w47 ⟨v18,rfl,ho0,hb⟩;refine ⟨_,rfl,?_⟩;have n0_:=a0_ (R_elder' (by (with_reducible repeat (first | apply R_alloc | apply R_drewN | apply R_drew));exact (R_mono (R_far (p:=⟨gb16,0,none⟩) (R_types HO7.1 BK16.1 (by decide)) (fun _ hk=>hk.2) (.slice Ao43 t11.length co43)) (fun _ h_=>h_.1))) (R_base ho0) hb);have n1_:=a0_ (R_below (by (with_reducible repeat (first | apply R_alloc | apply R_drewN | apply R_drew));exact (R_mono (R_far (p:=⟨gb16,0,none⟩) (R_types HO10.1 BK16.1 (by decide)) (fun _ hk=>hk.2) (.slice Ao43 t11.length co43)) (fun _ h_=>h_.1))) hb);have n2_:=a0_ (R_below (by (with_reducible repeat (first | apply R_alloc | apply R_drewN | apply R_drew));exact (R_mono (R_far (p:=⟨gb16,0,none⟩) (R_types HO13.1 BK16.1 (by decide)) (fun _ hk=>hk.2) (.slice Ao43 t11.length co43)) (fun _ h_=>h_.1))) hb);have n3_:=a0_ (R_lower (R_new' ho0 (R_lt (by (with_reducible repeat (first | apply R_alloc | apply R_drewN | apply R_drew));exact (R_mono (R_far (p:=⟨gb16,0,none⟩) (R_types HO7.1 BK16.1 (by decide)) (fun _ hk=>hk.2) (.slice Ao43 t11.length co43)) (fun _ h_=>h_.1))))) (below_size hb_));have n4_:=kf_ BK1 NB1_16 hb;have n5_:=kf_ BK2 NB2_16 hb;have n6_:=a0_ (blk_below (g:=gb16) (o:=.cells #[.slice Ao43 t11.length co43] 37 (0,0)) (by (with_reducible repeat (first | refine blk_drewN ?_ _ | refine blk_drew ?_ | refine blk_alloc ?_ _));refine blk_put (cs:=#[.slice none 0 0]) ?_ 0 _ rfl;(with_reducible repeat (first | refine blk_drewN ?_ _ | refine blk_drew ?_ | refine blk_alloc ?_ _));exact BK16.1) hb);have n7_:=a0_ (below_step hb_ hb);clear HO7 HO10;clear HO13 BK1;clear BK2 BK16 HB;have HO7:=n0_;have HO10:=n1_;have HO13:=n2_;have HO19:=n3_;have BK1:=n4_;have BK2:=n5_;have BK16:=n6_;have HB:=n7_;clear n0_ n1_ n2_ n3_ n4_ n5_ n6_ n7_;(try clear hb);(try clear ho0)) | ((with_reducible refine gate_dst (N:=13) rfl ?_);refine box_event ?hg (N:=13) ?hd (cs:=#[.slice none 0 0]) (t:=33) ?hr ?_;(case hd=>rfl);(case hg=>rfl);(case hr=>first | (go_simp;done) | (go_simp;rfl));intro gb20 hg w48 hbox hb;have n0_:=rb_ HO7 hb;have n1_:=rb_ HO10 hb;have n2_:=rb_ HO13 hb;have n3_:=rb_ HO19 hb;have n4_:=kb_ BK1 hb;have n5_:=kb_ BK2 hb;have n6_:=kb_ BK16 hb;have n7_:=a0_ (below_step hb_ hb);have n8_:=a0_ (hbox);have n9_:=a0_ ((by rw [hg];exact (below_size hb_) : w.heap.size ≤ gb20));have n10_:=a0_ ((by rw [hg];exact (below_size hb_) : w.heap.size ≤ gb20));have n11_:=a0_ ((by rw [hg];exact Nat.ne_of_lt (blk_lt (bb_ BK1.1)) : gb1 ≠ gb20));have n12_:=a0_ ((by rw [hg];exact Nat.ne_of_gt (blk_lt (bb_ BK1.1)) : gb20 ≠ gb1));have n13_:=a0_ ((by rw [hg];exact Nat.ne_of_lt (blk_lt (bb_ BK2.1)) : gb2 ≠ gb20));have n14_:=a0_ ((by rw [hg];exact Nat.ne_of_gt (blk_lt (bb_ BK2.1)) : gb20 ≠ gb2));have n15_:=a0_ ((by rw [hg];exact Nat.ne_of_lt (blk_lt (bb_ BK16.1)) : gb16 ≠ gb20));have n16_:=a0_ ((by rw [hg];exact Nat.ne_of_gt (blk_lt (bb_ BK16.1)) : gb20 ≠ gb16));clear HO7 HO10;clear HO13 HO19;clear BK1 BK2;clear BK16 HB;have HO7:=n0_;have HO10:=n1_;have HO13:=n2_;have HO19:=n3_;have BK1:=n4_;have BK2:=n5_;have BK16:=n6_;have HB:=n7_;have BK20:=n8_;have GW20:=n9_;have GE20:=n10_;have NB1_20:=n11_;have NB20_1:=n12_;have NB2_20:=n13_;have NB20_2:=n14_;have NB16_20:=n15_;have NB20_16:=n16_;clear n0_ n1_ n2_ n3_ n4_ n5_ n6_ n7_ n8_ n9_ n10_ n11_ n12_ n13_ n14_ n15_ n16_;clear hb hbox hg;obtain ⟨Ao49,co49,eo49⟩:=R_slice HO19.1;subst eo49;have hnb50:=NB20_1.1;have hnc50:=NB1_20.1;have hnb51:=NB20_2.1;have hnc51:=NB2_20.1;have hnb52:=NB20_16.1;have hnc52:=NB16_20.1;have hcz53_0 : w48.cell? ⟨gb20,0,none⟩ = some (.slice none 0 0):=(blk_cell BK20.1 0).trans rfl;have hfz53_0:=blk_frozen BK20.1 0;have hnb54:=NB2_16.1;have hnc54:=NB16_2.1;have hcz55_0 : w48.cell? ⟨gb2,0,none⟩ = some (.slice A1_0 l1_0.length c1_0):=(blk_cell BK2.1 0).trans rfl;have hfz55_0:=blk_frozen BK2.1 0) | ((with_reducible refine gate_callee (f:=18) rfl ?_);refine goesL_ (some 48) rfl rfl Try.func18 (by kernel_rfl) rfl #[.agg #[.slice A1_0 l1_0.length c1_0]] rfl lm_ ?_;(with_reducible refine (laws_toHeap.calls k _ _ l1_0 t21 _ ?side1 ?side2 A25.1).mono ?_);(case side1=>exact C_below HR1_0.1 hb_);(case side2=>exact HC1_0.1);rintro e w56 ⟨v22,rfl,ho0,hb⟩;refine ⟨_,rfl,?_⟩;have n0_:=a0_ (R_below (by (with_reducible repeat (first | apply R_alloc | apply R_drewN | apply R_drew));exact (R_mono (R_far (p:=⟨gb20,0,none⟩) (R_types HO7.1 BK20.1 (by decide)) (fun _ hk=>hk.2) (.slice Ao49 t17.length co49)) (fun _ h_=>h_.1))) hb);have n1_:=a0_ (R_elder' (by (with_reducible repeat (first | apply R_alloc | apply R_drewN | apply R_drew));exact (R_mono (R_far (p:=⟨gb20,0,none⟩) (R_types HO10.1 BK20.1 (by decide)) (fun _ hk=>hk.2) (.slice Ao49 t17.length co49)) (fun _ h_=>h_.1))) (R_base ho0) hb);have n2_:=a0_ (R_elder' (by (with_reducible repeat (first | apply R_alloc | apply R_drewN | apply R_drew));exact (R_mono (R_far (p:=⟨gb20,0,none⟩) (R_types HO13.1 BK20.1 (by decide)) (fun _ hk=>hk.2) (.slice Ao49 t17.length co49)) (fun _ h_=>h_.1))) (R_base ho0) hb);have n3_:=a0_ (R_below (by (with_reducible repeat (first | apply R_alloc | apply R_drewN | apply R_drew));exact (R_mono (R_far (p:=⟨gb20,0,none⟩) (R_types HO19.1 BK20.1 (by decide)) (fun _ hk=>hk.2) (.slice Ao49 t17.length co49)) (fun _ h_=>h_.1))) hb);have n4_:=a0_ (R_lower (R_new' (R_new' ho0 (R_lt (by (with_reducible repeat (first | apply R_alloc | apply R_drewN | apply R_drew));exact (R_mono (R_far (p:=⟨gb20,0,none⟩) (R_types HO10.1 BK20.1 (by decide)) (fun _ hk=>hk.2) (.slice Ao49 t17.length co49)) (fun _ h_=>h_.1))))) (R_lt (by (with_reducible repeat (first | apply R_alloc | apply R_drewN | apply R_drew));exact (R_mono (R_far (p:=⟨gb20,0,none⟩) (R_types HO13.1 BK20.1 (by decide)) (fun _ hk=>hk.2) (.slice Ao49 t17.length co49)) (fun _ h_=>h_.1))))) (below_size hb_));have n5_:=kf_ BK1 NB1_20 hb;have n6_:=kf_ BK2 NB2_20 hb;have n7_:=kf_ BK16 NB16_20 hb;have n8_:=a0_ (blk_below (g:=gb20) (o:=.cells #[.slice Ao49 t17.length co49] 33 (0,0)) (by (with_reducible repeat (first | refine blk_drewN ?_ _ | refine blk_drew ?_ | refine blk_alloc ?_ _));refine blk_put (cs:=#[.slice none 0 0]) ?_ 0 _ rfl;(with_reducible repeat (first | refine blk_drewN ?_ _ | refine blk_drew ?_ | refine blk_alloc ?_ _));exact BK20.1) hb);have n9_:=a0_ (below_step hb_ hb);clear HO7 HO10;clear HO13 HO19;clear BK1 BK2;clear BK16 BK20 HB;have HO7:=n0_;have HO10:=n1_;have HO13:=n2_;have HO19:=n3_;have HO23:=n4_;have BK1:=n5_;have BK2:=n6_;have BK16:=n7_;have BK20:=n8_;have HB:=n9_;clear n0_ n1_ n2_ n3_ n4_ n5_ n6_ n7_ n8_ n9_;(try clear hb);(try clear ho0)) | ((with_reducible refine gate_dst (N:=14) rfl ?_);refine box_event ?hg (N:=14) ?hd (cs:=#[.slice none 0 0]) (t:=37) ?hr ?_;(case hd=>rfl);(case hg=>rfl);(case hr=>first | (go_simp;done) | (go_simp;rfl));intro gb24 hg w57 hbox hb;have n0_:=rb_ HO7 hb;have n1_:=rb_ HO10 hb;have n2_:=rb_ HO13 hb;have n3_:=rb_ HO19 hb;have n4_:=rb_ HO23 hb;have n5_:=kb_ BK1 hb;have n6_:=kb_ BK2 hb;have n7_:=kb_ BK16 hb;have n8_:=kb_ BK20 hb;have n9_:=a0_ (below_step hb_ hb);have n10_:=a0_ (hbox);have n11_:=a0_ ((by rw [hg];exact (below_size hb_) : w.heap.size ≤ gb24));have n12_:=a0_ ((by rw [hg];exact (below_size hb_) : w.heap.size ≤ gb24));have n13_:=a0_ ((by rw [hg];exact Nat.ne_of_lt (blk_lt (bb_ BK1.1)) : gb1 ≠ gb24));have n14_:=a0_ ((by rw [hg];exact Nat.ne_of_gt (blk_lt (bb_ BK1.1)) : gb24 ≠ gb1));have n15_:=a0_ ((by rw [hg];exact Nat.ne_of_lt (blk_lt (bb_ BK2.1)) : gb2 ≠ gb24));have n16_:=a0_ ((by rw [hg];exact Nat.ne_of_gt (blk_lt (bb_ BK2.1)) : gb24 ≠ gb2));have n17_:=a0_ ((by rw [hg];exact Nat.ne_of_lt (blk_lt (bb_ BK16.1)) : gb16 ≠ gb24));have n18_:=a0_ ((by rw [hg];exact Nat.ne_of_gt (blk_lt (bb_ BK16.1)) : gb24 ≠ gb16));have n19_:=a0_ ((by rw [hg];exact Nat.ne_of_lt (blk_lt (bb_ BK20.1)) : gb20 ≠ gb24));have n20_:=a0_ ((by rw [hg];exact Nat.ne_of_gt (blk_lt (bb_ BK20.1)) : gb24 ≠ gb20));clear HO7 HO10;clear HO13 HO19;clear HO23 BK1;clear BK2 BK16;clear BK20 HB;have HO7:=n0_;have HO10:=n1_;have HO13:=n2_;have HO19:=n3_;have HO23:=n4_;have BK1:=n5_;have BK2:=n6_;have BK16:=n7_;have BK20:=n8_;have HB:=n9_;have BK24:=n10_;have GW24:=n11_;have GE24:=n12_;have NB1_24:=n13_;have NB24_1:=n14_;have NB2_24:=n15_;have NB24_2:=n16_;have NB16_24:=n17_;have NB24_16:=n18_;have NB20_24:=n19_;have NB24_20:=n20_;clear n0_ n1_ n2_ n3_ n4_ n5_ n6_ n7_ n8_ n9_ n10_ n11_ n12_ n13_ n14_ n15_ n16_ n17_ n18_ n19_ n20_;clear hb hbox hg;obtain ⟨Ao58,co58,eo58⟩:=R_slice HO23.1;subst eo58;have hnb59:=NB24_1.1;have hnc59:=NB1_24.1;have hnb60:=NB24_2.1;have hnc60:=NB2_24.1;have hnb61:=NB24_16.1;have hnc61:=NB16_24.1;have hnb62:=NB24_20.1;have hnc62:=NB20_24.1;have hcz63_0 : w57.cell? ⟨gb24,0,none⟩ = some (.slice none 0 0):=(blk_cell BK24.1 0).trans rfl;have hfz63_0:=blk_frozen BK24.1 0;have hcz64_0 : w57.cell? ⟨gb20,0,none⟩ = some (.slice Ao49 t17.length co49):=(blk_cell BK20.1 0).trans rfl;have hfz64_0:=blk_frozen BK20.1 0) | ((with_reducible refine gate_callee (f:=41) rfl ?_);refine goesL_ (some 54) rfl rfl Try.func41 (by kernel_rfl) rfl #[.agg #[.slice Ao49 t17.length co49],.agg #[.slice Ao58 t21.length co58],.int .i64 a2,.int .i64 a3] rfl lm_ ?_;(with_reducible refine (impl_NewFault.calls _ _ t17 _ _ t21 a2 a3 t25 t28 t29 _ ?side1 ?side2 ?side3 ?side4 A26.1).mono ?_);(case side1=>refine (R_reads' (e:=106) (base:=w.heap.size) (ok:=fun k_=>(True ∧ some k_ ≠ (v6 : Value).ownBlock)) (n:=t17.length) (c:=co49) ?_).2.2;exact (by (with_reducible repeat (first | apply R_alloc | apply R_drewN | apply R_drew));exact (R_mono (R_far (p:=⟨gb24,0,none⟩) (R_types HO19.1 BK24.1 (by decide)) (fun _ hk=>hk.2) (.slice Ao58 t21.length co58)) (fun _ h_=>h_.1))));(case side2=>exact (R_reads' HO19.1).2.1);(case side3=>refine (R_reads' (e:=79) (base:=w.heap.size) (ok:=fun k_=>((True ∧ some k_ ≠ (v9 : Value).ownBlock) ∧ some k_ ≠ (.slice Ao43 t11.length co43 : Value).ownBlock)) (n:=t21.length) (c:=co58) ?_).2.2;exact (by (with_reducible repeat (first | apply R_alloc | apply R_drewN | apply R_drew));exact (R_mono (R_far (p:=⟨gb24,0,none⟩) (R_types HO23.1 BK24.1 (by decide)) (fun _ hk=>hk.2) (.slice Ao58 t21.length co58)) (fun _ h_=>h_.1))));(case side4=>exact (R_reads' HO23.1).2.1);rintro e w65 ⟨v26,rfl,ho0,hb⟩;refine ⟨_,rfl,?_⟩;have n0_:=a0_ (R_below (by (with_reducible repeat (first | apply R_alloc | apply R_drewN | apply R_drew));exact (R_mono (R_far (p:=⟨gb24,0,none⟩) (R_types HO7.1 BK24.1 (by decide)) (fun _ hk=>hk.2) (.slice Ao58 t21.length co58)) (fun _ h_=>h_.1))) hb);have n1_:=a0_ (R_elder' (by (with_reducible repeat (first | apply R_alloc | apply R_drewN | apply R_drew));exact (R_mono (R_far (p:=⟨gb24,0,none⟩) (R_types HO10.1 BK24.1 (by decide)) (fun _ hk=>hk.2) (.slice Ao58 t21.length co58)) (fun _ h_=>h_.1))) (R_base ho0) hb);have n2_:=a0_ (R_elder' (by (with_reducible repeat (first | apply R_alloc | apply R_drewN | apply R_drew));exact (R_mono (R_far (p:=⟨gb24,0,none⟩) (R_types HO13.1 BK24.1 (by decide)) (fun _ hk=>hk.2) (.slice Ao58 t21.length co58)) (fun _ h_=>h_.1))) (R_base ho0) hb);have n3_:=a0_ (R_below (by (with_reducible repeat (first | apply R_alloc | apply R_drewN | apply R_drew));exact (R_mono (R_far (p:=⟨gb24,0,none⟩) (R_types HO19.1 BK24.1 (by decide)) (fun _ hk=>hk.2) (.slice Ao58 t21.length co58)) (fun _ h_=>h_.1))) hb);have n4_:=a0_ (R_elder' (by (with_reducible repeat (first | apply R_alloc | apply R_drewN | apply R_drew));exact (R_mono (R_far (p:=⟨gb24,0,none⟩) (R_types HO23.1 BK24.1 (by decide)) (fun _ hk=>hk.2) (.slice Ao58 t21.length co58)) (fun _ h_=>h_.1))) (R_base ho0) hb);have n5_:=a0_ (R_lower (R_new' (R_new' (R_new' ho0 (R_lt (by (with_reducible repeat (first | apply R_alloc | apply R_drewN | apply R_drew));exact (R_mono (R_far (p:=⟨gb24,0,none⟩) (R_types HO10.1 BK24.1 (by decide)) (fun _ hk=>hk.2) (.slice Ao58 t21.length co58)) (fun _ h_=>h_.1))))) (R_lt (by (with_reducible repeat (first | apply R_alloc | apply R_drewN | apply R_drew));exact (R_mono (R_far (p:=⟨gb24,0,none⟩) (R_types HO13.1 BK24.1 (by decide)) (fun _ hk=>hk.2) (.slice Ao58 t21.length co58)) (fun _ h_=>h_.1))))) (R_lt (by (with_reducible repeat (first | apply R_alloc | apply R_drewN | apply R_drew));exact (R_mono (R_far (p:=⟨gb24,0,none⟩) (R_types HO23.1 BK24.1 (by decide)) (fun _ hk=>hk.2) (.slice Ao58 t21.length co58)) (fun _ h_=>h_.1))))) (below_size hb_));have n6_:=kf_ BK1 NB1_24 hb;have n7_:=kf_ BK2 NB2_24 hb;have n8_:=kf_ BK16 NB16_24 hb;have n9_:=kf_ BK20 NB20_24 hb;have n10_:=a0_ (blk_below (g:=gb24) (o:=.cells #[.slice Ao58 t21.length co58] 37 (0,0)) (by (with_reducible repeat (first | refine blk_drewN ?_ _ | refine blk_drew ?_ | refine blk_alloc ?_ _));refine blk_put (cs:=#[.slice none 0 0]) ?_ 0 _ rfl;(with_reducible repeat (first | refine blk_drewN ?_ _ | refine blk_drew ?_ | refine blk_alloc ?_ _));exact BK24.1) hb);have n11_:=a0_ (below_step hb_ hb);clear HO7 HO10;clear HO13 HO19;clear HO23 BK1;clear BK2 BK16;clear BK20 BK24 HB;have HO7:=n0_;have HO10:=n1_;have HO13:=n2_;have HO19:=n3_;have HO23:=n4_;have HO27:=n5_;have BK1:=n6_;have BK2:=n7_;have BK16:=n8_;have BK20:=n9_;have BK24:=n10_;have HB:=n11_;clear n0_ n1_ n2_ n3_ n4_ n5_ n6_ n7_ n8_ n9_ n10_ n11_;(try clear hb);(try clear ho0)) | ((with_reducible refine gate_dst (N:=15) rfl ?_);refine box_event ?hg (N:=15) ?hd (cs:=#[.slice none 0 0]) (t:=37) ?hr ?_;(case hd=>rfl);(case hg=>rfl);(case hr=>first | (go_simp;done) | (go_simp;rfl));intro gb30 hg w66 hbox hb;have n0_:=rb_ HO7 hb;have n1_:=rb_ HO10 hb;have n2_:=rb_ HO13 hb;have n3_:=rb_ HO19 hb;have n4_:=rb_ HO23 hb;have n5_:=rb_ HO27 hb;have n6_:=kb_ BK1 hb;have n7_:=kb_ BK2 hb;have n8_:=kb_ BK16 hb;have n9_:=kb_ BK20 hb;have n10_:=kb_ BK24 hb;have n11_:=a0_ (below_step hb_ hb);have n12_:=a0_ (hbox);have n13_:=a0_ ((by rw [hg];exact (below_size hb_) : w.heap.size ≤ gb30));have n14_:=a0_ ((by rw [hg];exact (below_size hb_) : w.heap.size ≤ gb30));have n15_:=a0_ ((by rw [hg];exact Nat.ne_of_lt (blk_lt (bb_ BK1.1)) : gb1 ≠ gb30));have n16_:=a0_ ((by rw [hg];exact Nat.ne_of_gt (blk_lt (bb_ BK1.1)) : gb30 ≠ gb1));have n17_:=a0_ ((by rw [hg];exact Nat.ne_of_lt (blk_lt (bb_ BK2.1)) : gb2 ≠ gb30));have n18_:=a0_ ((by rw [hg];exact Nat.ne_of_gt (blk_lt (bb_ BK2.1)) : gb30 ≠ gb2));have n19_:=a0_ ((by rw [hg];exact Nat.ne_of_lt (blk_lt (bb_ BK16.1)) : gb16 ≠ gb30));have n20_:=a0_ ((by rw [hg];exact Nat.ne_of_gt (blk_lt (bb_ BK16.1)) : gb30 ≠ gb16));have n21_:=a0_ ((by rw [hg];exact Nat.ne_of_lt (blk_lt (bb_ BK20.1)) : gb20 ≠ gb30));have n22_:=a0_ ((by rw [hg];exact Nat.ne_of_gt (blk_lt (bb_ BK20.1)) : gb30 ≠ gb20));have n23_:=a0_ ((by rw [hg];exact Nat.ne_of_lt (blk_lt (bb_ BK24.1)) : gb24 ≠ gb30));have n24_:=a0_ ((by rw [hg];exact Nat.ne_of_gt (blk_lt (bb_ BK24.1)) : gb30 ≠ gb24));clear HO7 HO10;clear HO13 HO19;clear HO23 HO27;clear BK1 BK2;clear BK16 BK20;clear BK24 HB;have HO7:=n0_;have HO10:=n1_;have HO13:=n2_;have HO19:=n3_;have HO23:=n4_;have HO27:=n5_;have BK1:=n6_;have BK2:=n7_;have BK16:=n8_;have BK20:=n9_;have BK24:=n10_;have HB:=n11_;have BK30:=n12_;have GW30:=n13_;have GE30:=n14_;have NB1_30:=n15_;have NB30_1:=n16_;have NB2_30:=n17_;have NB30_2:=n18_;have NB16_30:=n19_;have NB30_16:=n20_;have NB20_30:=n21_;have NB30_20:=n22_;have NB24_30:=n23_;have NB30_24:=n24_;clear n0_ n1_ n2_ n3_ n4_ n5_ n6_ n7_ n8_ n9_ n10_ n11_ n12_ n13_ n14_ n15_ n16_ n17_ n18_ n19_ n20_ n21_ n22_ n23_ n24_;clear hb hbox hg;obtain ⟨Ao67,co67,eo67⟩:=R_slice HO27.1;subst eo67;have hnb68:=NB30_1.1;have hnc68:=NB1_30.1;have hnb69:=NB30_2.1;have hnc69:=NB2_30.1;have hnb70:=NB30_16.1;have hnc70:=NB16_30.1;have hnb71:=NB30_20.1;have hnc71:=NB20_30.1;have hnb72:=NB30_24.1;have hnc72:=NB24_30.1;have hcz73_0 : w66.cell? ⟨gb30,0,none⟩ = some (.slice none 0 0):=(blk_cell BK30.1 0).trans rfl;have hfz73_0:=blk_frozen BK30.1 0))
   (try simp only [Act.put,s1_,s2_,s3_])
   go_cut [71] (fun v71 wc=>∃ (kq : Nat) (x71_26 : Bool),v71 = .bool x71_26 ∧ Aside0 (laws_FnExactNewFault.j0 kq a2 a3 t14 t15 t28 t29 x71_26 l0_0 l1_0 t11 t17 t21 t25 = some r) ∧ Aside0 (kq ≤ k) ∧ Aside0 (Kd.R k79 79 wc w.heap.size (fun k_=>some k_ ≠ ((.slice Ao58 t21.length co58) : Value).ownBlock ∧ some k_ ≠ ((.slice Ao67 t25.length co67) : Value).ownBlock) (.slice Ao43 t11.length co43) t11) ∧ Aside0 (Kd.R k106 106 wc w.heap.size (fun _=>True) (.slice Ao49 t17.length co49) t17) ∧ Aside0 (Kd.R k79 79 wc w.heap.size (fun k_=>some k_ ≠ ((.slice Ao43 t11.length co43) : Value).ownBlock ∧ some k_ ≠ ((.slice Ao67 t25.length co67) : Value).ownBlock) (.slice Ao58 t21.length co58) t21) ∧ Aside0 (Kd.R k79 79 wc w.heap.size (fun k_=>some k_ ≠ ((.slice Ao43 t11.length co43) : Value).ownBlock ∧ some k_ ≠ ((.slice Ao58 t21.length co58) : Value).ownBlock) (.slice Ao67 t25.length co67) t25) ∧ Aside0 (wc.heap[gb1]? = some (.cells #[(.slice A0_0 l0_0.length c0_0)] 24 (0,0))) ∧ Aside0 (wc.heap[gb2]? = some (.cells #[(.slice A1_0 l1_0.length c1_0)] 27 (0,0))) ∧ Aside0 (wc.heap[gb16]? = some (.cells #[(.slice Ao43 t11.length co43)] 37 (0,0))) ∧ Aside0 (wc.heap[gb20]? = some (.cells #[(.slice Ao49 t17.length co49)] 33 (0,0))) ∧ Aside0 (wc.heap[gb24]? = some (.cells #[(.slice Ao58 t21.length co58)] 37 (0,0))) ∧ Aside0 (wc.heap[gb30]? = some (.cells #[(.slice Ao67 t25.length co67)] 37 (0,0))) ∧ Aside0 (Below w.heap.size w wc))
   case first =>
    have H:=HC27.1
    clear HC27
    replace H:=Option.bind_eq_some_iff.mp H
    obtain ⟨t31,A740,H⟩:=H
    replace H : (if t31 = true then (if t28 = t14 then (laws_FnExactNewFault.j0 k a2 a3 t14 t15 t28 t29 (t29 != t15) l0_0 l1_0 t11 t17 t21 t25) else (laws_FnExactNewFault.j0 k a2 a3 t14 t15 t28 t29 true l0_0 l1_0 t11 t17 t21 t25)) else (laws_FnExactNewFault.j0 k a2 a3 t14 t15 t28 t29 true l0_0 l1_0 t11 t17 t21 t25)) = some r:=H
    have A74:=a0_ A740
    clear A740
    by_cases c75 : t31 = true
    ·subst c75
     have H1 : (if t28 = t14 then (laws_FnExactNewFault.j0 k a2 a3 t14 t15 t28 t29 (t29 != t15) l0_0 l1_0 t11 t17 t21 t25) else (laws_FnExactNewFault.j0 k a2 a3 t14 t15 t28 t29 true l0_0 l1_0 t11 t17 t21 t25)) = some r:=by rw [if_pos rfl] at H;exact H
     clear H
     have H:=H1
     clear H1
     by_cases c76 : t28 = t14
     ·rw [if_pos c76] at H
      have c76b0 : (t28 == t14) = true:=beq_iff_eq.mpr c76
      have c76b1 : (t28 != t14) = false:=bne_eq_false_iff_eq.mpr c76
      clear c76
      (first | rw [c76b0] | (simp only [i64_w,i32_w];rw [c76b0]) | skip)
      have H':=a0_ H
      clear H
      have hnb77:=NB30_1.1
      have hnc77:=NB1_30.1
      have hnb78:=NB30_2.1
      have hnc78:=NB2_30.1
      have hnb79:=NB30_16.1
      have hnc79:=NB16_30.1
      have hnb80:=NB30_20.1
      have hnc80:=NB20_30.1
      have hnb81:=NB30_24.1
      have hnc81:=NB24_30.1
      have hcz82_0 : w66.cell? ⟨gb30,0,none⟩ = some (.slice none 0 0):=(blk_cell BK30.1 0).trans rfl
      have hfz82_0:=blk_frozen BK30.1 0
      have hnb83:=NB16_1.1
      have hnc83:=NB1_16.1
      have hnb84:=NB16_2.1
      have hnc84:=NB2_16.1
      have hnb85:=NB16_20.1
      have hnc85:=NB20_16.1
      have hnb86:=NB16_24.1
      have hnc86:=NB24_16.1
      have hcz87_0 : w66.cell? ⟨gb16,0,none⟩ = some (.slice Ao43 t11.length co43):=(blk_cell BK16.1 0).trans rfl
      have hfz87_0:=blk_frozen BK16.1 0
      go_wp2_with (first | ((with_reducible refine gate_callee (f:=21) rfl ?_);refine goesL_ (some 60) rfl rfl Try.func21 (by kernel_rfl) rfl #[.agg #[.slice Ao67 t25.length co67],.agg #[.slice Ao43 t11.length co43]] rfl lm_ ?_;(with_reducible refine (laws_eqHeap.calls k _ _ t25 _ _ t11 true _ ?side1 ?side2 ?side3 ?side4 A74.1).mono ?_);(case side1=>refine (R_reads' (e:=79) (base:=w.heap.size) (ok:=fun k_=>(((True ∧ some k_ ≠ (v9 : Value).ownBlock) ∧ some k_ ≠ (.slice Ao43 t11.length co43 : Value).ownBlock) ∧ some k_ ≠ (.slice Ao58 t21.length co58 : Value).ownBlock)) (n:=t25.length) (c:=co67) ?_).2.2;exact (by (with_reducible repeat (first | apply R_alloc | apply R_drewN | apply R_drew));exact (R_mono (R_far (p:=⟨gb30,0,none⟩) (R_types HO27.1 BK30.1 (by decide)) (fun _ hk=>hk.2) (.slice Ao67 t25.length co67)) (fun _ h_=>h_.1))));(case side2=>exact (R_reads' HO27.1).2.1);(case side3=>refine (R_reads' (e:=79) (base:=w.heap.size) (ok:=fun k_=>((some k_ ≠ (v9 : Value).ownBlock ∧ some k_ ≠ (.slice Ao58 t21.length co58 : Value).ownBlock) ∧ some k_ ≠ (.slice Ao67 t25.length co67 : Value).ownBlock)) (n:=t11.length) (c:=co43) ?_).2.2;exact (by (with_reducible repeat (first | apply R_alloc | apply R_drewN | apply R_drew));exact (R_mono (R_far (p:=⟨gb30,0,none⟩) (R_types HO13.1 BK30.1 (by decide)) (fun _ hk=>hk.2) (.slice Ao67 t25.length co67)) (fun _ h_=>h_.1))));(case side4=>exact (R_reads' HO13.1).2.1);rintro e w88 ⟨rfl,hb⟩;refine ⟨_,rfl,?_⟩;replace HO7:=a0_ (R_below (by (with_reducible repeat (first | apply R_alloc | apply R_drewN | apply R_drew));exact (R_mono (R_far (p:=⟨gb30,0,none⟩) (R_types HO7.1 BK30.1 (by decide)) (fun _ hk=>hk.2) (.slice Ao67 t25.length co67)) (fun _ h_=>h_.1))) hb);replace HO10:=a0_ (R_below (by (with_reducible repeat (first | apply R_alloc | apply R_drewN | apply R_drew));exact (R_mono (R_far (p:=⟨gb30,0,none⟩) (R_types HO10.1 BK30.1 (by decide)) (fun _ hk=>hk.2) (.slice Ao67 t25.length co67)) (fun _ h_=>h_.1))) hb);replace HO13:=a0_ (R_below (by (with_reducible repeat (first | apply R_alloc | apply R_drewN | apply R_drew));exact (R_mono (R_far (p:=⟨gb30,0,none⟩) (R_types HO13.1 BK30.1 (by decide)) (fun _ hk=>hk.2) (.slice Ao67 t25.length co67)) (fun _ h_=>h_.1))) hb);replace HO19:=a0_ (R_below (by (with_reducible repeat (first | apply R_alloc | apply R_drewN | apply R_drew));exact (R_mono (R_far (p:=⟨gb30,0,none⟩) (R_types HO19.1 BK30.1 (by decide)) (fun _ hk=>hk.2) (.slice Ao67 t25.length co67)) (fun _ h_=>h_.1))) hb);replace HO23:=a0_ (R_below (by (with_reducible repeat (first | apply R_alloc | apply R_drewN | apply R_drew));exact (R_mono (R_far (p:=⟨gb30,0,none⟩) (R_types HO23.1 BK30.1 (by decide)) (fun _ hk=>hk.2) (.slice Ao67 t25.length co67)) (fun _ h_=>h_.1))) hb);replace HO27:=a0_ (R_below (by (with_reducible repeat (first | apply R_alloc | apply R_drewN | apply R_drew));exact (R_mono (R_far (p:=⟨gb30,0,none⟩) (R_types HO27.1 BK30.1 (by decide)) (fun _ hk=>hk.2) (.slice Ao67 t25.length co67)) (fun _ h_=>h_.1))) hb);replace BK1:=kf_ BK1 NB1_30 hb;replace BK2:=kf_ BK2 NB2_30 hb;replace BK16:=kf_ BK16 NB16_30 hb;replace BK20:=kf_ BK20 NB20_30 hb;replace BK24:=kf_ BK24 NB24_30 hb;replace BK30:=a0_ (blk_below (g:=gb30) (o:=.cells #[.slice Ao67 t25.length co67] 37 (0,0)) (by (with_reducible repeat (first | refine blk_drewN ?_ _ | refine blk_drew ?_ | refine blk_alloc ?_ _));refine blk_put (cs:=#[.slice none 0 0]) ?_ 0 _ rfl;(with_reducible repeat (first | refine blk_drewN ?_ _ | refine blk_drew ?_ | refine blk_alloc ?_ _));exact BK30.1) hb);replace HB:=a0_ (below_step hb_ hb);(try clear hb);(try clear hb2);(try clear hk);(try clear hi)))
      go_meet
      case rel=>exact ⟨_,((t29 != t15)),(by first | rfl | (simp;done) | (simp [*];done)),H',⟨by first | omega | exact Nat.le_refl _⟩,⟨by (with_reducible repeat (first | apply R_alloc | apply R_drewN | apply R_drew));exact R_mono HO13.1 (fun _ hk=>⟨hk.1.2,hk.2⟩)⟩,⟨by (with_reducible repeat (first | apply R_alloc | apply R_drewN | apply R_drew));exact R_mono HO19.1 (fun _ hk=>trivial)⟩,⟨by (with_reducible repeat (first | apply R_alloc | apply R_drewN | apply R_drew));exact R_mono HO23.1 (fun _ hk=>⟨hk.1.2,hk.2⟩)⟩,⟨by (with_reducible repeat (first | apply R_alloc | apply R_drewN | apply R_drew));exact R_mono HO27.1 (fun _ hk=>⟨hk.1.2,hk.2⟩)⟩,⟨by (with_reducible repeat (first | refine blk_drewN ?_ _ | refine blk_drew ?_ | refine blk_alloc ?_ _));exact BK1.1⟩,⟨by (with_reducible repeat (first | refine blk_drewN ?_ _ | refine blk_drew ?_ | refine blk_alloc ?_ _));exact BK2.1⟩,⟨by (with_reducible repeat (first | refine blk_drewN ?_ _ | refine blk_drew ?_ | refine blk_alloc ?_ _));exact BK16.1⟩,⟨by (with_reducible repeat (first | refine blk_drewN ?_ _ | refine blk_drew ?_ | refine blk_alloc ?_ _));exact BK20.1⟩,⟨by (with_reducible repeat (first | refine blk_drewN ?_ _ | refine blk_drew ?_ | refine blk_alloc ?_ _));exact BK24.1⟩,⟨by (with_reducible repeat (first | refine blk_drewN ?_ _ | refine blk_drew ?_ | refine blk_alloc ?_ _));exact BK30.1⟩,⟨hb_⟩⟩
     ·rw [if_neg c76] at H
      have c76b0 : (t28 == t14) = false:=beq_eq_false_iff_ne.mpr c76
      have c76b1 : (t28 != t14) = true:=bne_iff_ne.mpr c76
      (first | rw [c76b0] | (simp only [i64_w,i32_w];rw [c76b0]) | skip)
      have H':=a0_ H
      clear H
      have hnb89:=NB30_1.1
      have hnc89:=NB1_30.1
      have hnb90:=NB30_2.1
      have hnc90:=NB2_30.1
      have hnb91:=NB30_16.1
      have hnc91:=NB16_30.1
      have hnb92:=NB30_20.1
      have hnc92:=NB20_30.1
      have hnb93:=NB30_24.1
      have hnc93:=NB24_30.1
      have hcz94_0 : w66.cell? ⟨gb30,0,none⟩ = some (.slice none 0 0):=(blk_cell BK30.1 0).trans rfl
      have hfz94_0:=blk_frozen BK30.1 0
      have hnb95:=NB16_1.1
      have hnc95:=NB1_16.1
      have hnb96:=NB16_2.1
      have hnc96:=NB2_16.1
      have hnb97:=NB16_20.1
      have hnc97:=NB20_16.1
      have hnb98:=NB16_24.1
      have hnc98:=NB24_16.1
      have hcz99_0 : w66.cell? ⟨gb16,0,none⟩ = some (.slice Ao43 t11.length co43):=(blk_cell BK16.1 0).trans rfl
      have hfz99_0:=blk_frozen BK16.1 0
      go_wp2_with (first | ((with_reducible refine gate_callee (f:=21) rfl ?_);refine goesL_ (some 60) rfl rfl Try.func21 (by kernel_rfl) rfl #[.agg #[.slice Ao67 t25.length co67],.agg #[.slice Ao43 t11.length co43]] rfl lm_ ?_;(with_reducible refine (laws_eqHeap.calls k _ _ t25 _ _ t11 true _ ?side1 ?side2 ?side3 ?side4 A74.1).mono ?_);(case side1=>refine (R_reads' (e:=79) (base:=w.heap.size) (ok:=fun k_=>(((True ∧ some k_ ≠ (v9 : Value).ownBlock) ∧ some k_ ≠ (.slice Ao43 t11.length co43 : Value).ownBlock) ∧ some k_ ≠ (.slice Ao58 t21.length co58 : Value).ownBlock)) (n:=t25.length) (c:=co67) ?_).2.2;exact (by (with_reducible repeat (first | apply R_alloc | apply R_drewN | apply R_drew));exact (R_mono (R_far (p:=⟨gb30,0,none⟩) (R_types HO27.1 BK30.1 (by decide)) (fun _ hk=>hk.2) (.slice Ao67 t25.length co67)) (fun _ h_=>h_.1))));(case side2=>exact (R_reads' HO27.1).2.1);(case side3=>refine (R_reads' (e:=79) (base:=w.heap.size) (ok:=fun k_=>((some k_ ≠ (v9 : Value).ownBlock ∧ some k_ ≠ (.slice Ao58 t21.length co58 : Value).ownBlock) ∧ some k_ ≠ (.slice Ao67 t25.length co67 : Value).ownBlock)) (n:=t11.length) (c:=co43) ?_).2.2;exact (by (with_reducible repeat (first | apply R_alloc | apply R_drewN | apply R_drew));exact (R_mono (R_far (p:=⟨gb30,0,none⟩) (R_types HO13.1 BK30.1 (by decide)) (fun _ hk=>hk.2) (.slice Ao67 t25.length co67)) (fun _ h_=>h_.1))));(case side4=>exact (R_reads' HO13.1).2.1);rintro e w100 ⟨rfl,hb⟩;refine ⟨_,rfl,?_⟩;replace HO7:=a0_ (R_below (by (with_reducible repeat (first | apply R_alloc | apply R_drewN | apply R_drew));exact (R_mono (R_far (p:=⟨gb30,0,none⟩) (R_types HO7.1 BK30.1 (by decide)) (fun _ hk=>hk.2) (.slice Ao67 t25.length co67)) (fun _ h_=>h_.1))) hb);replace HO10:=a0_ (R_below (by (with_reducible repeat (first | apply R_alloc | apply R_drewN | apply R_drew));exact (R_mono (R_far (p:=⟨gb30,0,none⟩) (R_types HO10.1 BK30.1 (by decide)) (fun _ hk=>hk.2) (.slice Ao67 t25.length co67)) (fun _ h_=>h_.1))) hb);replace HO13:=a0_ (R_below (by (with_reducible repeat (first | apply R_alloc | apply R_drewN | apply R_drew));exact (R_mono (R_far (p:=⟨gb30,0,none⟩) (R_types HO13.1 BK30.1 (by decide)) (fun _ hk=>hk.2) (.slice Ao67 t25.length co67)) (fun _ h_=>h_.1))) hb);replace HO19:=a0_ (R_below (by (with_reducible repeat (first | apply R_alloc | apply R_drewN | apply R_drew));exact (R_mono (R_far (p:=⟨gb30,0,none⟩) (R_types HO19.1 BK30.1 (by decide)) (fun _ hk=>hk.2) (.slice Ao67 t25.length co67)) (fun _ h_=>h_.1))) hb);replace HO23:=a0_ (R_below (by (with_reducible repeat (first | apply R_alloc | apply R_drewN | apply R_drew));exact (R_mono (R_far (p:=⟨gb30,0,none⟩) (R_types HO23.1 BK30.1 (by decide)) (fun _ hk=>hk.2) (.slice Ao67 t25.length co67)) (fun _ h_=>h_.1))) hb);replace HO27:=a0_ (R_below (by (with_reducible repeat (first | apply R_alloc | apply R_drewN | apply R_drew));exact (R_mono (R_far (p:=⟨gb30,0,none⟩) (R_types HO27.1 BK30.1 (by decide)) (fun _ hk=>hk.2) (.slice Ao67 t25.length co67)) (fun _ h_=>h_.1))) hb);replace BK1:=kf_ BK1 NB1_30 hb;replace BK2:=kf_ BK2 NB2_30 hb;replace BK16:=kf_ BK16 NB16_30 hb;replace BK20:=kf_ BK20 NB20_30 hb;replace BK24:=kf_ BK24 NB24_30 hb;replace BK30:=a0_ (blk_below (g:=gb30) (o:=.cells #[.slice Ao67 t25.length co67] 37 (0,0)) (by (with_reducible repeat (first | refine blk_drewN ?_ _ | refine blk_drew ?_ | refine blk_alloc ?_ _));refine blk_put (cs:=#[.slice none 0 0]) ?_ 0 _ rfl;(with_reducible repeat (first | refine blk_drewN ?_ _ | refine blk_drew ?_ | refine blk_alloc ?_ _));exact BK30.1) hb);replace HB:=a0_ (below_step hb_ hb);(try clear hb);(try clear hb2);(try clear hk);(try clear hi)))
      go_meet
      case rel=>exact ⟨_,(true),(by first | rfl | (simp;done) | (simp [*];done)),H',⟨by first | omega | exact Nat.le_refl _⟩,⟨by (with_reducible repeat (first | apply R_alloc | apply R_drewN | apply R_drew));exact R_mono HO13.1 (fun _ hk=>⟨hk.1.2,hk.2⟩)⟩,⟨by (with_reducible repeat (first | apply R_alloc | apply R_drewN | apply R_drew));exact R_mono HO19.1 (fun _ hk=>trivial)⟩,⟨by (with_reducible repeat (first | apply R_alloc | apply R_drewN | apply R_drew));exact R_mono HO23.1 (fun _ hk=>⟨hk.1.2,hk.2⟩)⟩,⟨by (with_reducible repeat (first | apply R_alloc | apply R_drewN | apply R_drew));exact R_mono HO27.1 (fun _ hk=>⟨hk.1.2,hk.2⟩)⟩,⟨by (with_reducible repeat (first | refine blk_drewN ?_ _ | refine blk_drew ?_ | refine blk_alloc ?_ _));exact BK1.1⟩,⟨by (with_reducible repeat (first | refine blk_drewN ?_ _ | refine blk_drew ?_ | refine blk_alloc ?_ _));exact BK2.1⟩,⟨by (with_reducible repeat (first | refine blk_drewN ?_ _ | refine blk_drew ?_ | refine blk_alloc ?_ _));exact BK16.1⟩,⟨by (with_reducible repeat (first | refine blk_drewN ?_ _ | refine blk_drew ?_ | refine blk_alloc ?_ _));exact BK20.1⟩,⟨by (with_reducible repeat (first | refine blk_drewN ?_ _ | refine blk_drew ?_ | refine blk_alloc ?_ _));exact BK24.1⟩,⟨by (with_reducible repeat (first | refine blk_drewN ?_ _ | refine blk_drew ?_ | refine blk_alloc ?_ _));exact BK30.1⟩,⟨hb_⟩⟩
    ·replace c75:=Bool.eq_false_iff.mpr c75
     subst c75
     have H1 : (laws_FnExactNewFault.j0 k a2 a3 t14 t15 t28 t29 true l0_0 l1_0 t11 t17 t21 t25) = some r:=by rw [if_neg (show ¬ (false = true) by decide)] at H;exact H
     clear H
     have H:=H1
     clear H1
     have H':=a0_ H
     clear H
     have hnb101:=NB30_1.1
     have hnc101:=NB1_30.1
     have hnb102:=NB30_2.1
     have hnc102:=NB2_30.1
     have hnb103:=NB30_16.1
     have hnc103:=NB16_30.1
     have hnb104:=NB30_20.1
     have hnc104:=NB20_30.1
     have hnb105:=NB30_24.1
     have hnc105:=NB24_30.1
     have hcz106_0 : w66.cell? ⟨gb30,0,none⟩ = some (.slice none 0 0):=(blk_cell BK30.1 0).trans rfl
     have hfz106_0:=blk_frozen BK30.1 0
     have hnb107:=NB16_1.1
     have hnc107:=NB1_16.1
     have hnb108:=NB16_2.1
     have hnc108:=NB2_16.1
     have hnb109:=NB16_20.1
     have hnc109:=NB20_16.1
     have hnb110:=NB16_24.1
     have hnc110:=NB24_16.1
     have hcz111_0 : w66.cell? ⟨gb16,0,none⟩ = some (.slice Ao43 t11.length co43):=(blk_cell BK16.1 0).trans rfl
     have hfz111_0:=blk_frozen BK16.1 0
     go_wp2_with (first | ((with_reducible refine gate_callee (f:=21) rfl ?_);refine goesL_ (some 60) rfl rfl Try.func21 (by kernel_rfl) rfl #[.agg #[.slice Ao67 t25.length co67],.agg #[.slice Ao43 t11.length co43]] rfl lm_ ?_;(with_reducible refine (laws_eqHeap.calls k _ _ t25 _ _ t11 false _ ?side1 ?side2 ?side3 ?side4 A74.1).mono ?_);(case side1=>refine (R_reads' (e:=79) (base:=w.heap.size) (ok:=fun k_=>(((True ∧ some k_ ≠ (v9 : Value).ownBlock) ∧ some k_ ≠ (.slice Ao43 t11.length co43 : Value).ownBlock) ∧ some k_ ≠ (.slice Ao58 t21.length co58 : Value).ownBlock)) (n:=t25.length) (c:=co67) ?_).2.2;exact (by (with_reducible repeat (first | apply R_alloc | apply R_drewN | apply R_drew));exact (R_mono (R_far (p:=⟨gb30,0,none⟩) (R_types HO27.1 BK30.1 (by decide)) (fun _ hk=>hk.2) (.slice Ao67 t25.length co67)) (fun _ h_=>h_.1))));(case side2=>exact (R_reads' HO27.1).2.1);(case side3=>refine (R_reads' (e:=79) (base:=w.heap.size) (ok:=fun k_=>((some k_ ≠ (v9 : Value).ownBlock ∧ some k_ ≠ (.slice Ao58 t21.length co58 : Value).ownBlock) ∧ some k_ ≠ (.slice Ao67 t25.length co67 : Value).ownBlock)) (n:=t11.length) (c:=co43) ?_).2.2;exact (by (with_reducible repeat (first | apply R_alloc | apply R_drewN | apply R_drew));exact (R_mono (R_far (p:=⟨gb30,0,none⟩) (R_types HO13.1 BK30.1 (by decide)) (fun _ hk=>hk.2) (.slice Ao67 t25.length co67)) (fun _ h_=>h_.1))));(case side4=>exact (R_reads' HO13.1).2.1);rintro e w112 ⟨rfl,hb⟩;refine ⟨_,rfl,?_⟩;replace HO7:=a0_ (R_below (by (with_reducible repeat (first | apply R_alloc | apply R_drewN | apply R_drew));exact (R_mono (R_far (p:=⟨gb30,0,none⟩) (R_types HO7.1 BK30.1 (by decide)) (fun _ hk=>hk.2) (.slice Ao67 t25.length co67)) (fun _ h_=>h_.1))) hb);replace HO10:=a0_ (R_below (by (with_reducible repeat (first | apply R_alloc | apply R_drewN | apply R_drew));exact (R_mono (R_far (p:=⟨gb30,0,none⟩) (R_types HO10.1 BK30.1 (by decide)) (fun _ hk=>hk.2) (.slice Ao67 t25.length co67)) (fun _ h_=>h_.1))) hb);replace HO13:=a0_ (R_below (by (with_reducible repeat (first | apply R_alloc | apply R_drewN | apply R_drew));exact (R_mono (R_far (p:=⟨gb30,0,none⟩) (R_types HO13.1 BK30.1 (by decide)) (fun _ hk=>hk.2) (.slice Ao67 t25.length co67)) (fun _ h_=>h_.1))) hb);replace HO19:=a0_ (R_below (by (with_reducible repeat (first | apply R_alloc | apply R_drewN | apply R_drew));exact (R_mono (R_far (p:=⟨gb30,0,none⟩) (R_types HO19.1 BK30.1 (by decide)) (fun _ hk=>hk.2) (.slice Ao67 t25.length co67)) (fun _ h_=>h_.1))) hb);replace HO23:=a0_ (R_below (by (with_reducible repeat (first | apply R_alloc | apply R_drewN | apply R_drew));exact (R_mono (R_far (p:=⟨gb30,0,none⟩) (R_types HO23.1 BK30.1 (by decide)) (fun _ hk=>hk.2) (.slice Ao67 t25.length co67)) (fun _ h_=>h_.1))) hb);replace HO27:=a0_ (R_below (by (with_reducible repeat (first | apply R_alloc | apply R_drewN | apply R_drew));exact (R_mono (R_far (p:=⟨gb30,0,none⟩) (R_types HO27.1 BK30.1 (by decide)) (fun _ hk=>hk.2) (.slice Ao67 t25.length co67)) (fun _ h_=>h_.1))) hb);replace BK1:=kf_ BK1 NB1_30 hb;replace BK2:=kf_ BK2 NB2_30 hb;replace BK16:=kf_ BK16 NB16_30 hb;replace BK20:=kf_ BK20 NB20_30 hb;replace BK24:=kf_ BK24 NB24_30 hb;replace BK30:=a0_ (blk_below (g:=gb30) (o:=.cells #[.slice Ao67 t25.length co67] 37 (0,0)) (by (with_reducible repeat (first | refine blk_drewN ?_ _ | refine blk_drew ?_ | refine blk_alloc ?_ _));refine blk_put (cs:=#[.slice none 0 0]) ?_ 0 _ rfl;(with_reducible repeat (first | refine blk_drewN ?_ _ | refine blk_drew ?_ | refine blk_alloc ?_ _));exact BK30.1) hb);replace HB:=a0_ (below_step hb_ hb);(try clear hb);(try clear hb2);(try clear hk);(try clear hi)))
     go_meet
     case rel=>exact ⟨_,(true),(by first | rfl | (simp;done) | (simp [*];done)),H',⟨by first | omega | exact Nat.le_refl _⟩,⟨by (with_reducible repeat (first | apply R_alloc | apply R_drewN | apply R_drew));exact R_mono HO13.1 (fun _ hk=>⟨hk.1.2,hk.2⟩)⟩,⟨by (with_reducible repeat (first | apply R_alloc | apply R_drewN | apply R_drew));exact R_mono HO19.1 (fun _ hk=>trivial)⟩,⟨by (with_reducible repeat (first | apply R_alloc | apply R_drewN | apply R_drew));exact R_mono HO23.1 (fun _ hk=>⟨hk.1.2,hk.2⟩)⟩,⟨by (with_reducible repeat (first | apply R_alloc | apply R_drewN | apply R_drew));exact R_mono HO27.1 (fun _ hk=>⟨hk.1.2,hk.2⟩)⟩,⟨by (with_reducible repeat (first | refine blk_drewN ?_ _ | refine blk_drew ?_ | refine blk_alloc ?_ _));exact BK1.1⟩,⟨by (with_reducible repeat (first | refine blk_drewN ?_ _ | refine blk_drew ?_ | refine blk_alloc ?_ _));exact BK2.1⟩,⟨by (with_reducible repeat (first | refine blk_drewN ?_ _ | refine blk_drew ?_ | refine blk_alloc ?_ _));exact BK16.1⟩,⟨by (with_reducible repeat (first | refine blk_drewN ?_ _ | refine blk_drew ?_ | refine blk_alloc ?_ _));exact BK20.1⟩,⟨by (with_reducible repeat (first | refine blk_drewN ?_ _ | refine blk_drew ?_ | refine blk_alloc ?_ _));exact BK24.1⟩,⟨by (with_reducible repeat (first | refine blk_drewN ?_ _ | refine blk_drew ?_ | refine blk_alloc ?_ _));exact BK30.1⟩,⟨hb_⟩⟩
   case rest =>
    clear HC27
    try clear c1
    try clear c2
    try clear p2
    try clear c4
    try clear c5
    try clear c6
    try clear c7
    try clear c8
    try clear c9
    try clear c10
    try clear c11
    try clear c17
    try clear c18
    try clear c21
    try clear c40
    try clear c41
    try clear c45
    try clear c50
    try clear c51
    try clear c52
    try clear c54
    try clear c59
    try clear c60
    try clear c61
    try clear c62
    try clear c68
    try clear c69
    try clear c70
    try clear c71
    try clear c72
    try clear c75
    try clear c76
    try clear c76b0
    try clear c76b1
    try clear c77
    try clear c78
    try clear c79
    try clear c80
    try clear c81
    try clear c83
    try clear c84
    try clear c85
    try clear c86
    try clear c89
    try clear c90
    try clear c91
    try clear c92
    try clear c93
    try clear c95
    try clear c96
    try clear c97
    try clear c98
    try clear c101
    try clear c102
    try clear c103
    try clear c104
    try clear c105
    try clear c107
    try clear c108
    try clear c109
    try clear c110
    try clear hcz106_0
    try clear hcz111_0
    try clear hcz46_0
    try clear hcz53_0
    try clear hcz55_0
    try clear hcz63_0
    try clear hcz64_0
    try clear hcz73_0
    try clear hcz82_0
    try clear hcz87_0
    try clear hcz94_0
    try clear hcz99_0
    try clear hfz106_0
    try clear hfz111_0
    try clear hfz46_0
    try clear hfz53_0
    try clear hfz55_0
    try clear hfz63_0
    try clear hfz64_0
    try clear hfz73_0
    try clear hfz82_0
    try clear hfz87_0
    try clear hfz94_0
    try clear hfz99_0
    obtain ⟨kq,x71_26,rfl,HA,HJ26,Z17,Z21,Z25,Z31,BK1,BK2,BK16,BK20,BK24,BK30,HB⟩:=hcut
    cases kq with
    | zero=>exact absurd HA.out (by simp [laws_FnExactNewFault.j0])
    | succ kj26 =>
     have H:=HA.out
     clear HA
     simp only [laws_FnExactNewFault.j0] at H
     by_cases c113 : x71_26 = true
     ·subst c113
      have H1 : (some false) = some r:=by rw [if_pos rfl] at H;exact H
      clear H
      have H:=H1
      clear H1
      obtain rfl:=Option.some.inj H
      go_wp2
      go_ret
      exact ⟨by first | rfl | (simp [errW_none,errW_some] <;> rfl) | (simp [*,errW_none,errW_some] <;> rfl),hb_⟩
     ·replace c113:=Bool.eq_false_iff.mpr c113
      subst c113
      have H1 : ((laws_toTree.f kj26 l0_0).bind fun t32=>((laws_eqTree.f kj26 t17 t32).bind fun t35=>(if t35 = true then ((laws_toHeap.f kj26 l1_0).bind fun t36=>((laws_eqHeap.f kj26 t21 t36).bind fun t39=>(if t39 = true then ((laws_markTree.f kj26 t17 1).bind fun bt40=>((laws_markHeap.f kj26 t21 bt40.1).bind fun bt42=>(if bt42.1 < 0 then (laws_FnExactNewFault.j1 kj26 a2 a3 t14 t15 true l0_0 l1_0 t11 t25) else ((laws_eqHeap.f kj26 t25 t11).bind fun t44=>(if t44 = true then (if t28 = t14 then (laws_FnExactNewFault.j1 kj26 a2 a3 t14 t15 (t29 != t15) l0_0 l1_0 t11 t25) else (laws_FnExactNewFault.j1 kj26 a2 a3 t14 t15 true l0_0 l1_0 t11 t25)) else (laws_FnExactNewFault.j1 kj26 a2 a3 t14 t15 true l0_0 l1_0 t11 t25)))))) else (some false)))) else (some false)))) = some r:=by rw [if_neg (show ¬ (false = true) by decide)] at H;exact H
      clear H
      have H:=H1
      clear H1
      replace H:=Option.bind_eq_some_iff.mp H
      obtain ⟨t32,A1140,H⟩:=H
      replace H : ((laws_eqTree.f kj26 t17 t32).bind fun t35=>(if t35 = true then ((laws_toHeap.f kj26 l1_0).bind fun t36=>((laws_eqHeap.f kj26 t21 t36).bind fun t39=>(if t39 = true then ((laws_markTree.f kj26 t17 1).bind fun bt40=>((laws_markHeap.f kj26 t21 bt40.1).bind fun bt42=>(if bt42.1 < 0 then (laws_FnExactNewFault.j1 kj26 a2 a3 t14 t15 true l0_0 l1_0 t11 t25) else ((laws_eqHeap.f kj26 t25 t11).bind fun t44=>(if t44 = true then (if t28 = t14 then (laws_FnExactNewFault.j1 kj26 a2 a3 t14 t15 (t29 != t15) l0_0 l1_0 t11 t25) else (laws_FnExactNewFault.j1 kj26 a2 a3 t14 t15 true l0_0 l1_0 t11 t25)) else (laws_FnExactNewFault.j1 kj26 a2 a3 t14 t15 true l0_0 l1_0 t11 t25)))))) else (some false)))) else (some false))) = some r:=H
      have A114:=a0_ A1140
      clear A1140
      replace H:=Option.bind_eq_some_iff.mp H
      obtain ⟨t35,A1150,H⟩:=H
      replace H : (if t35 = true then ((laws_toHeap.f kj26 l1_0).bind fun t36=>((laws_eqHeap.f kj26 t21 t36).bind fun t39=>(if t39 = true then ((laws_markTree.f kj26 t17 1).bind fun bt40=>((laws_markHeap.f kj26 t21 bt40.1).bind fun bt42=>(if bt42.1 < 0 then (laws_FnExactNewFault.j1 kj26 a2 a3 t14 t15 true l0_0 l1_0 t11 t25) else ((laws_eqHeap.f kj26 t25 t11).bind fun t44=>(if t44 = true then (if t28 = t14 then (laws_FnExactNewFault.j1 kj26 a2 a3 t14 t15 (t29 != t15) l0_0 l1_0 t11 t25) else (laws_FnExactNewFault.j1 kj26 a2 a3 t14 t15 true l0_0 l1_0 t11 t25)) else (laws_FnExactNewFault.j1 kj26 a2 a3 t14 t15 true l0_0 l1_0 t11 t25)))))) else (some false)))) else (some false)) = some r:=H
      have A115:=a0_ A1150
      clear A1150
      by_cases c116 : t35 = true
      ·subst c116
       have H1 : ((laws_toHeap.f kj26 l1_0).bind fun t36=>((laws_eqHeap.f kj26 t21 t36).bind fun t39=>(if t39 = true then ((laws_markTree.f kj26 t17 1).bind fun bt40=>((laws_markHeap.f kj26 t21 bt40.1).bind fun bt42=>(if bt42.1 < 0 then (laws_FnExactNewFault.j1 kj26 a2 a3 t14 t15 true l0_0 l1_0 t11 t25) else ((laws_eqHeap.f kj26 t25 t11).bind fun t44=>(if t44 = true then (if t28 = t14 then (laws_FnExactNewFault.j1 kj26 a2 a3 t14 t15 (t29 != t15) l0_0 l1_0 t11 t25) else (laws_FnExactNewFault.j1 kj26 a2 a3 t14 t15 true l0_0 l1_0 t11 t25)) else (laws_FnExactNewFault.j1 kj26 a2 a3 t14 t15 true l0_0 l1_0 t11 t25)))))) else (some false)))) = some r:=by rw [if_pos rfl] at H;exact H
       clear H
       have H:=H1
       clear H1
       replace H:=Option.bind_eq_some_iff.mp H
       obtain ⟨t36,A1170,H⟩:=H
       replace H : ((laws_eqHeap.f kj26 t21 t36).bind fun t39=>(if t39 = true then ((laws_markTree.f kj26 t17 1).bind fun bt40=>((laws_markHeap.f kj26 t21 bt40.1).bind fun bt42=>(if bt42.1 < 0 then (laws_FnExactNewFault.j1 kj26 a2 a3 t14 t15 true l0_0 l1_0 t11 t25) else ((laws_eqHeap.f kj26 t25 t11).bind fun t44=>(if t44 = true then (if t28 = t14 then (laws_FnExactNewFault.j1 kj26 a2 a3 t14 t15 (t29 != t15) l0_0 l1_0 t11 t25) else (laws_FnExactNewFault.j1 kj26 a2 a3 t14 t15 true l0_0 l1_0 t11 t25)) else (laws_FnExactNewFault.j1 kj26 a2 a3 t14 t15 true l0_0 l1_0 t11 t25)))))) else (some false))) = some r:=H
       have A117:=a0_ A1170
       clear A1170
       replace H:=Option.bind_eq_some_iff.mp H
       obtain ⟨t39,A1180,H⟩:=H
       replace H : (if t39 = true then ((laws_markTree.f kj26 t17 1).bind fun bt40=>((laws_markHeap.f kj26 t21 bt40.1).bind fun bt42=>(if bt42.1 < 0 then (laws_FnExactNewFault.j1 kj26 a2 a3 t14 t15 true l0_0 l1_0 t11 t25) else ((laws_eqHeap.f kj26 t25 t11).bind fun t44=>(if t44 = true then (if t28 = t14 then (laws_FnExactNewFault.j1 kj26 a2 a3 t14 t15 (t29 != t15) l0_0 l1_0 t11 t25) else (laws_FnExactNewFault.j1 kj26 a2 a3 t14 t15 true l0_0 l1_0 t11 t25)) else (laws_FnExactNewFault.j1 kj26 a2 a3 t14 t15 true l0_0 l1_0 t11 t25)))))) else (some false)) = some r:=H
       have A118:=a0_ A1180
       clear A1180
       by_cases c119 : t39 = true
       ·subst c119
        have H1 : ((laws_markTree.f kj26 t17 1).bind fun bt40=>((laws_markHeap.f kj26 t21 bt40.1).bind fun bt42=>(if bt42.1 < 0 then (laws_FnExactNewFault.j1 kj26 a2 a3 t14 t15 true l0_0 l1_0 t11 t25) else ((laws_eqHeap.f kj26 t25 t11).bind fun t44=>(if t44 = true then (if t28 = t14 then (laws_FnExactNewFault.j1 kj26 a2 a3 t14 t15 (t29 != t15) l0_0 l1_0 t11 t25) else (laws_FnExactNewFault.j1 kj26 a2 a3 t14 t15 true l0_0 l1_0 t11 t25)) else (laws_FnExactNewFault.j1 kj26 a2 a3 t14 t15 true l0_0 l1_0 t11 t25)))))) = some r:=by rw [if_pos rfl] at H;exact H
        clear H
        have H:=H1
        clear H1
        replace H:=Option.bind_eq_some_iff.mp H
        obtain ⟨⟨t40,t41⟩,A1200,H⟩:=H
        replace H : ((laws_markHeap.f kj26 t21 t40).bind fun bt42=>(if bt42.1 < 0 then (laws_FnExactNewFault.j1 kj26 a2 a3 t14 t15 true l0_0 l1_0 t11 t25) else ((laws_eqHeap.f kj26 t25 t11).bind fun t44=>(if t44 = true then (if t28 = t14 then (laws_FnExactNewFault.j1 kj26 a2 a3 t14 t15 (t29 != t15) l0_0 l1_0 t11 t25) else (laws_FnExactNewFault.j1 kj26 a2 a3 t14 t15 true l0_0 l1_0 t11 t25)) else (laws_FnExactNewFault.j1 kj26 a2 a3 t14 t15 true l0_0 l1_0 t11 t25))))) = some r:=H
        have A120:=a0_ A1200
        clear A1200
        replace H:=Option.bind_eq_some_iff.mp H
        obtain ⟨⟨t42,t43⟩,A1210,H⟩:=H
        replace H : (if t42 < 0 then (laws_FnExactNewFault.j1 kj26 a2 a3 t14 t15 true l0_0 l1_0 t11 t25) else ((laws_eqHeap.f kj26 t25 t11).bind fun t44=>(if t44 = true then (if t28 = t14 then (laws_FnExactNewFault.j1 kj26 a2 a3 t14 t15 (t29 != t15) l0_0 l1_0 t11 t25) else (laws_FnExactNewFault.j1 kj26 a2 a3 t14 t15 true l0_0 l1_0 t11 t25)) else (laws_FnExactNewFault.j1 kj26 a2 a3 t14 t15 true l0_0 l1_0 t11 t25)))) = some r:=H
        have A121:=a0_ A1210
        clear A1210
        have HC122:=a0_ H
        clear H
        try go_wp2
        have n0_:=a0_ (R_drew Z17.out)
        have n1_:=a0_ (R_drew Z21.out)
        have n2_:=a0_ (R_drew Z25.out)
        have n3_:=a0_ (R_drew Z31.out)
        have n4_:=a0_ (blk_drew BK1.1)
        have n5_:=a0_ (blk_drew BK2.1)
        have n6_:=a0_ (blk_drew BK16.1)
        have n7_:=a0_ (blk_drew BK20.1)
        have n8_:=a0_ (blk_drew BK24.1)
        have n9_:=a0_ (blk_drew BK30.1)
        have n10_:=a0_ (below_drew1 HB.1)
        clear Z17
        clear Z21
        clear Z25
        clear Z31
        clear BK1
        clear BK2
        clear BK16
        clear BK20
        clear BK24
        clear BK30
        clear HB
        have Z17:=n0_
        have Z21:=n1_
        have Z25:=n2_
        have Z31:=n3_
        have BK1:=n4_
        have BK2:=n5_
        have BK16:=n6_
        have BK20:=n7_
        have BK24:=n8_
        have BK30:=n9_
        have HB:=n10_
        clear n0_ n1_ n2_ n3_ n4_ n5_ n6_ n7_ n8_ n9_ n10_
        refine start_ (n:=5) (S:=fun w'=>w'.cell? ⟨gb20,0,none⟩ = some (.slice Ao49 t17.length co49) ∧ w'.cell? ⟨gb1,0,none⟩ = some (.slice A0_0 l0_0.length c0_0)) (ds:=[]) #[false,false,false,false,false] (by kernel_rfl) rfl rfl ⟨(blk_cell BK20.1 0).trans rfl,(blk_cell BK1.1 0).trans rfl⟩ (fun hHeld=>?_)
        generalize wc.drew = w123 at Z17 Z21 Z25 Z31 BK1 BK2 BK16 BK20 BK24 BK30 HB hHeld ⊢
        refine take_ (i:=0) (N:=some 72) (v:=?_) (a':=?_) #[true,false,false,false,false] rfl rfl (by kernel_rfl) (fun _ _ _ h=>h) (Or.inl ⟨by rfl,?_⟩) hHeld ?_ ?_
        rotate_left
        ·rintro w' ⟨s0,s1⟩
         go_simp
         with_reducible rfl
        rotate_left
        ·simp only [Act.put,s1_,s2_,s3_,i64_w,i32_w]
         rfl
        refine take_ (i:=1) (N:=some 73) (v:=?_) (a':=?_) #[true,true,false,false,false] rfl rfl (by kernel_rfl) (fun _ _ _ h=>h) (Or.inl ⟨by rfl,?_⟩) hHeld ?_ ?_
        rotate_left
        ·rintro w' ⟨s0,s1⟩
         go_simp
         with_reducible rfl
        rotate_left
        ·simp only [Act.put,s1_,s2_,s3_,i64_w,i32_w]
         rfl
        refine one_ (i:=2) (N:=some 74) #[true,true,true,false,false] rfl rfl (by kernel_rfl) (by decide) (fun K hK=>?_)
        refine goes_ Try.func17 (by kernel_rfl) rfl #[.agg #[.slice A0_0 l0_0.length c0_0]] (by rfl) rfl rfl lm_ ?_
        with_reducible refine (laws_toTree.calls kj26 _ _ l0_0 t32 _ ?side1 ?side2 A114.1).mono ?_
        (case side1=>exact cc_ (C_below HR0_0.1 HB.1))
        (case side2=>exact HC0_0.1)
        rintro e w124 ⟨v33,rfl,ho0,hb⟩
        refine ⟨_,rfl,?_⟩
        have n0_:=rb_ Z17 hb
        have n1_:=a0_ (R_elder' (rr_ Z21.out) (R_base ho0) hb)
        have n2_:=rb_ Z25 hb
        have n3_:=rb_ Z31 hb
        have n4_:=a0_ (R_lower (R_new' ho0 (R_lt (rr_ Z21.out))) (below_size hb_))
        have n5_:=kb_ BK1 hb
        have n6_:=kb_ BK2 hb
        have n7_:=kb_ BK16 hb
        have n8_:=kb_ BK20 hb
        have n9_:=kb_ BK24 hb
        have n10_:=kb_ BK30 hb
        have n11_:=a0_ (below_step hb_ hb)
        clear Z17
        clear Z21
        clear Z25
        clear Z31
        clear BK1
        clear BK2
        clear BK16
        clear BK20
        clear BK24
        clear BK30
        clear HB
        have Z17:=n0_
        have Z21:=n1_
        have Z25:=n2_
        have Z31:=n3_
        have HO34:=n4_
        have BK1:=n5_
        have BK2:=n6_
        have BK16:=n7_
        have BK20:=n8_
        have BK24:=n9_
        have BK30:=n10_
        have HB:=n11_
        clear n0_ n1_ n2_ n3_ n4_ n5_ n6_ n7_ n8_ n9_ n10_ n11_
        (try clear hb)
        (try clear hb2)
        (try clear hk)
        (try clear hi)
        (try clear ho0)
        obtain ⟨Ao125,co125,eo125⟩:=R_slice HO34.1
        (first | subst eo125 | (injection eo125 with f1_ f2_ f3_;have f4_:=f1_.symm;have f5_:=f3_.symm;clear f1_ f2_ f3_;subst f4_;subst f5_))
        refine hK.out _ _ ⟨(blk_cell BK20.1 0).trans rfl,(blk_cell BK1.1 0).trans rfl⟩ (fun hHeld=>?_)
        clear hK K
        refine norm_ (a':=?_) ?_ ?_
        rotate_left
        ·show Act.put _ (some 74) _ = _
         simp only [Act.put,s1_,s2_,s3_,i64_w,i32_w]
         rfl
        refine one_ (i:=3) (N:=some 75) #[true,true,true,true,false] rfl rfl (by kernel_rfl) (by decide) (fun K hK=>?_)
        refine goes_ Try.func20 (by kernel_rfl) rfl #[.agg #[.slice Ao49 t17.length co49],.agg #[.slice Ao125 t32.length co125]] (by rfl) rfl rfl lm_ ?_
        with_reducible refine (laws_eqTree.calls kj26 _ _ t17 _ _ t32 true _ ?side1 ?side2 ?side3 ?side4 A115.1).mono ?_
        (case side1=>exact cc_ (R_reads' Z21.out).2.2)
        (case side2=>exact (R_reads' Z21.out).2.1)
        (case side3=>exact cc_ (R_reads' HO34.1).2.2)
        (case side4=>exact (R_reads' HO34.1).2.1)
        rintro e w126 ⟨rfl,hb⟩
        refine ⟨_,rfl,?_⟩
        have n0_:=rb_ Z17 hb
        have n1_:=rb_ Z21 hb
        have n2_:=rb_ Z25 hb
        have n3_:=rb_ Z31 hb
        have n4_:=rb_ HO34 hb
        have n5_:=kb_ BK1 hb
        have n6_:=kb_ BK2 hb
        have n7_:=kb_ BK16 hb
        have n8_:=kb_ BK20 hb
        have n9_:=kb_ BK24 hb
        have n10_:=kb_ BK30 hb
        have n11_:=a0_ (below_step hb_ hb)
        clear Z17
        clear Z21
        clear Z25
        clear Z31
        clear HO34
        clear BK1
        clear BK2
        clear BK16
        clear BK20
        clear BK24
        clear BK30
        clear HB
        have Z17:=n0_
        have Z21:=n1_
        have Z25:=n2_
        have Z31:=n3_
        have HO34:=n4_
        have BK1:=n5_
        have BK2:=n6_
        have BK16:=n7_
        have BK20:=n8_
        have BK24:=n9_
        have BK30:=n10_
        have HB:=n11_
        clear n0_ n1_ n2_ n3_ n4_ n5_ n6_ n7_ n8_ n9_ n10_ n11_
        (try clear hb)
        (try clear hb2)
        (try clear hk)
        (try clear hi)
        refine hK.out _ _ ⟨(blk_cell BK20.1 0).trans rfl,(blk_cell BK1.1 0).trans rfl⟩ (fun hHeld=>?_)
        clear hK K
        refine norm_ (a':=?_) ?_ ?_
        rotate_left
        ·show Act.put _ (some 75) _ = _
         simp only [Act.put,s1_,s2_,s3_,i64_w,i32_w]
         rfl
        refine pure_ (i:=4) (N:=some 76) (v:=?_) (a':=?_) #[true,true,true,true,true] rfl rfl (by kernel_rfl) (fun _ _ _ h=>h) (Or.inl ⟨by rfl,?_⟩) ?_ ?_
        rotate_left
        ·intro w'
         go_simp
         with_reducible rfl
        rotate_left
        ·simp only [Act.put,s1_,s2_,s3_,i64_w,i32_w]
         rfl
        refine done_ (by kernel_rfl) ?_
        try go_wp2
        have n0_:=a0_ (R_drew Z17.out)
        have n1_:=a0_ (R_drew Z21.out)
        have n2_:=a0_ (R_drew Z25.out)
        have n3_:=a0_ (R_drew Z31.out)
        have n4_:=a0_ (R_drew HO34.1)
        have n5_:=a0_ (blk_drew BK1.1)
        have n6_:=a0_ (blk_drew BK2.1)
        have n7_:=a0_ (blk_drew BK16.1)
        have n8_:=a0_ (blk_drew BK20.1)
        have n9_:=a0_ (blk_drew BK24.1)
        have n10_:=a0_ (blk_drew BK30.1)
        have n11_:=a0_ (below_drew1 HB.1)
        clear Z17
        clear Z21
        clear Z25
        clear Z31
        clear HO34
        clear BK1
        clear BK2
        clear BK16
        clear BK20
        clear BK24
        clear BK30
        clear HB
        have Z17:=n0_
        have Z21:=n1_
        have Z25:=n2_
        have Z31:=n3_
        have HO34:=n4_
        have BK1:=n5_
        have BK2:=n6_
        have BK16:=n7_
        have BK20:=n8_
        have BK24:=n9_
        have BK30:=n10_
        have HB:=n11_
        clear n0_ n1_ n2_ n3_ n4_ n5_ n6_ n7_ n8_ n9_ n10_ n11_
        refine start_ (n:=5) (S:=fun w'=>w'.cell? ⟨gb24,0,none⟩ = some (.slice Ao58 t21.length co58) ∧ w'.cell? ⟨gb2,0,none⟩ = some (.slice A1_0 l1_0.length c1_0)) (ds:=[]) #[false,false,false,false,false] (by kernel_rfl) rfl rfl ⟨(blk_cell BK24.1 0).trans rfl,(blk_cell BK2.1 0).trans rfl⟩ (fun hHeld=>?_)
        generalize w126.drew = w127 at Z17 Z21 Z25 Z31 HO34 BK1 BK2 BK16 BK20 BK24 BK30 HB hHeld ⊢
        refine take_ (i:=0) (N:=some 77) (v:=?_) (a':=?_) #[true,false,false,false,false] rfl rfl (by kernel_rfl) (fun _ _ _ h=>h) (Or.inl ⟨by rfl,?_⟩) hHeld ?_ ?_
        rotate_left
        ·rintro w' ⟨s0,s1⟩
         go_simp
         with_reducible rfl
        rotate_left
        ·simp only [Act.put,s1_,s2_,s3_,i64_w,i32_w]
         rfl
        refine take_ (i:=1) (N:=some 78) (v:=?_) (a':=?_) #[true,true,false,false,false] rfl rfl (by kernel_rfl) (fun _ _ _ h=>h) (Or.inl ⟨by rfl,?_⟩) hHeld ?_ ?_
        rotate_left
        ·rintro w' ⟨s0,s1⟩
         go_simp
         with_reducible rfl
        rotate_left
        ·simp only [Act.put,s1_,s2_,s3_,i64_w,i32_w]
         rfl
        refine one_ (i:=2) (N:=some 79) #[true,true,true,false,false] rfl rfl (by kernel_rfl) (by decide) (fun K hK=>?_)
        refine goes_ Try.func18 (by kernel_rfl) rfl #[.agg #[.slice A1_0 l1_0.length c1_0]] (by rfl) rfl rfl lm_ ?_
        with_reducible refine (laws_toHeap.calls kj26 _ _ l1_0 t36 _ ?side1 ?side2 A117.1).mono ?_
        (case side1=>exact cc_ (C_below HR1_0.1 HB.1))
        (case side2=>exact HC1_0.1)
        rintro e w128 ⟨v37,rfl,ho0,hb⟩
        refine ⟨_,rfl,?_⟩
        have n0_:=a0_ (R_elder' (rr_ Z17.out) (R_base ho0) hb)
        have n1_:=rb_ Z21 hb
        have n2_:=a0_ (R_elder' (rr_ Z25.out) (R_base ho0) hb)
        have n3_:=a0_ (R_elder' (rr_ Z31.out) (R_base ho0) hb)
        have n4_:=rb_ HO34 hb
        have n5_:=a0_ (R_lower (R_new' (R_new' (R_new' ho0 (R_lt (rr_ Z17.out))) (R_lt (rr_ Z25.out))) (R_lt (rr_ Z31.out))) (below_size hb_))
        have n6_:=kb_ BK1 hb
        have n7_:=kb_ BK2 hb
        have n8_:=kb_ BK16 hb
        have n9_:=kb_ BK20 hb
        have n10_:=kb_ BK24 hb
        have n11_:=kb_ BK30 hb
        have n12_:=a0_ (below_step hb_ hb)
        clear Z17
        clear Z21
        clear Z25
        clear Z31
        clear HO34
        clear BK1
        clear BK2
        clear BK16
        clear BK20
        clear BK24
        clear BK30
        clear HB
        have Z17:=n0_
        have Z21:=n1_
        have Z25:=n2_
        have Z31:=n3_
        have HO34:=n4_
        have HO38:=n5_
        have BK1:=n6_
        have BK2:=n7_
        have BK16:=n8_
        have BK20:=n9_
        have BK24:=n10_
        have BK30:=n11_
        have HB:=n12_
        clear n0_ n1_ n2_ n3_ n4_ n5_ n6_ n7_ n8_ n9_ n10_ n11_ n12_
        (try clear hb)
        (try clear hb2)
        (try clear hk)
        (try clear hi)
        (try clear ho0)
        obtain ⟨Ao129,co129,eo129⟩:=R_slice HO38.1
        (first | subst eo129 | (injection eo129 with f1_ f2_ f3_;have f4_:=f1_.symm;have f5_:=f3_.symm;clear f1_ f2_ f3_;subst f4_;subst f5_))
        refine hK.out _ _ ⟨(blk_cell BK24.1 0).trans rfl,(blk_cell BK2.1 0).trans rfl⟩ (fun hHeld=>?_)
        clear hK K
        refine norm_ (a':=?_) ?_ ?_
        rotate_left
        ·show Act.put _ (some 79) _ = _
         simp only [Act.put,s1_,s2_,s3_,i64_w,i32_w]
         rfl
        refine one_ (i:=3) (N:=some 80) #[true,true,true,true,false] rfl rfl (by kernel_rfl) (by decide) (fun K hK=>?_)
        refine goes_ Try.func21 (by kernel_rfl) rfl #[.agg #[.slice Ao58 t21.length co58],.agg #[.slice Ao129 t36.length co129]] (by rfl) rfl rfl lm_ ?_
        with_reducible refine (laws_eqHeap.calls kj26 _ _ t21 _ _ t36 true _ ?side1 ?side2 ?side3 ?side4 A118.1).mono ?_
        (case side1=>exact cc_ (R_reads' Z25.out).2.2)
        (case side2=>exact (R_reads' Z25.out).2.1)
        (case side3=>exact cc_ (R_reads' HO38.1).2.2)
        (case side4=>exact (R_reads' HO38.1).2.1)
        rintro e w130 ⟨rfl,hb⟩
        refine ⟨_,rfl,?_⟩
        have n0_:=rb_ Z17 hb
        have n1_:=rb_ Z21 hb
        have n2_:=rb_ Z25 hb
        have n3_:=rb_ Z31 hb
        have n4_:=rb_ HO34 hb
        have n5_:=rb_ HO38 hb
        have n6_:=kb_ BK1 hb
        have n7_:=kb_ BK2 hb
        have n8_:=kb_ BK16 hb
        have n9_:=kb_ BK20 hb
        have n10_:=kb_ BK24 hb
        have n11_:=kb_ BK30 hb
        have n12_:=a0_ (below_step hb_ hb)
        clear Z17
        clear Z21
        clear Z25
        clear Z31
        clear HO34
        clear HO38
        clear BK1
        clear BK2
        clear BK16
        clear BK20
        clear BK24
        clear BK30
        clear HB
        have Z17:=n0_
        have Z21:=n1_
        have Z25:=n2_
        have Z31:=n3_
        have HO34:=n4_
        have HO38:=n5_
        have BK1:=n6_
        have BK2:=n7_
        have BK16:=n8_
        have BK20:=n9_
        have BK24:=n10_
        have BK30:=n11_
        have HB:=n12_
        clear n0_ n1_ n2_ n3_ n4_ n5_ n6_ n7_ n8_ n9_ n10_ n11_ n12_
        (try clear hb)
        (try clear hb2)
        (try clear hk)
        (try clear hi)
        refine hK.out _ _ ⟨(blk_cell BK24.1 0).trans rfl,(blk_cell BK2.1 0).trans rfl⟩ (fun hHeld=>?_)
        clear hK K
        refine norm_ (a':=?_) ?_ ?_
        rotate_left
        ·show Act.put _ (some 80) _ = _
         simp only [Act.put,s1_,s2_,s3_,i64_w,i32_w]
         rfl
        refine pure_ (i:=4) (N:=some 81) (v:=?_) (a':=?_) #[true,true,true,true,true] rfl rfl (by kernel_rfl) (fun _ _ _ h=>h) (Or.inl ⟨by rfl,?_⟩) ?_ ?_
        rotate_left
        ·intro w'
         go_simp
         with_reducible rfl
        rotate_left
        ·simp only [Act.put,s1_,s2_,s3_,i64_w,i32_w]
         rfl
        refine done_ (by kernel_rfl) ?_
        have hnb131:=NB20_1.1
        have hnc131:=NB1_20.1
        have hnb132:=NB20_2.1
        have hnc132:=NB2_20.1
        have hnb133:=NB20_16.1
        have hnc133:=NB16_20.1
        have hnb134:=NB20_24.1
        have hnc134:=NB24_20.1
        have hnb135:=NB20_30.1
        have hnc135:=NB30_20.1
        have hcz136_0 : w130.cell? ⟨gb20,0,none⟩ = some (.slice Ao49 t17.length co49):=(blk_cell BK20.1 0).trans rfl
        have hfz136_0:=blk_frozen BK20.1 0
        go_upto_region 21 with (first | ((with_reducible refine gate_callee (f:=29) rfl ?_);refine goesL_ (some 84) rfl rfl Try.func29 (by kernel_rfl) rfl #[.agg #[.slice Ao49 t17.length co49],.int .i64 1] rfl lm_ ?_;(with_reducible refine (laws_markTree.calls kj26 (fun k_=>some k_ = (.slice Ao49 t17.length co49 : Value).ownBlock) (.slice Ao49 t17.length co49) t17 1 t40 t41 w _ ?side1 ?side2 A120.1).mono ?_);(case side1=>exact hb_);(case side2=>exact R_tight rfl Z21.out);rintro e w137 ⟨rfl,hy0,hb,hkp⟩;refine ⟨_,rfl,?_⟩;have n0_:=a0_ (R_mono (ok':=fun k_=>some k_ ≠ (.slice Ao58 t21.length co58 : Value).ownBlock ∧ some k_ ≠ (.slice Ao67 t25.length co67 : Value).ownBlock ∧ some k_ ≠ (.slice Ao129 t36.length co129 : Value).ownBlock) (R_keptB ((R_apart' Z17.out (R_typed Z21.out) (by decide))) hkp (fun k_ hk_ hs_=>(hk_.2) hs_)) (fun k_ hk_=>⟨hk_.1.1.1.1,hk_.1.1.1.2,hk_.1.1.2⟩));have n1_:=a0_ (R_reok rfl hy0 (fun k_ e_=>Z21.out.1 k_ e_));have n2_:=a0_ (R_mono (ok':=fun k_=>some k_ ≠ (.slice Ao43 t11.length co43 : Value).ownBlock ∧ some k_ ≠ (.slice Ao67 t25.length co67 : Value).ownBlock ∧ some k_ ≠ (.slice Ao129 t36.length co129 : Value).ownBlock) (R_keptB ((R_apart' Z25.out (R_typed Z21.out) (by decide))) hkp (fun k_ hk_ hs_=>(hk_.2) hs_)) (fun k_ hk_=>⟨hk_.1.1.1.1,hk_.1.1.1.2,hk_.1.1.2⟩));have n3_:=a0_ (R_mono (ok':=fun k_=>some k_ ≠ (.slice Ao43 t11.length co43 : Value).ownBlock ∧ some k_ ≠ (.slice Ao58 t21.length co58 : Value).ownBlock ∧ some k_ ≠ (.slice Ao129 t36.length co129 : Value).ownBlock) (R_keptB ((R_apart' Z31.out (R_typed Z21.out) (by decide))) hkp (fun k_ hk_ hs_=>(hk_.2) hs_)) (fun k_ hk_=>⟨hk_.1.1.1.1,hk_.1.1.1.2,hk_.1.1.2⟩));have n4_:=a0_ (blk_kept (bb_ BK1.1) hkp (fun hs_=>(fun e_=>(R_ne Z21.out BK1.1 (by decide)) e_) hs_));have n5_:=a0_ (blk_kept (bb_ BK2.1) hkp (fun hs_=>(fun e_=>(R_ne Z21.out BK2.1 (by decide)) e_) hs_));have n6_:=a0_ (blk_kept (bb_ BK16.1) hkp (fun hs_=>(fun e_=>(R_ne Z21.out BK16.1 (by decide)) e_) hs_));have n7_:=a0_ (blk_kept (bb_ BK20.1) hkp (fun hs_=>(fun e_=>(R_ne Z21.out BK20.1 (by decide)) e_) hs_));have n8_:=a0_ (blk_kept (bb_ BK24.1) hkp (fun hs_=>(fun e_=>(R_ne Z21.out BK24.1 (by decide)) e_) hs_));have n9_:=a0_ (blk_kept (bb_ BK30.1) hkp (fun hs_=>(fun e_=>(R_ne Z21.out BK30.1 (by decide)) e_) hs_));have n10_:=a0_ (R_mono (ok':=fun k_=>some k_ ≠ (.slice Ao49 t17.length co49 : Value).ownBlock) (R_keptB (HO34.1) hkp (fun k_ hk_ hs_=>(hk_.2) hs_)) (fun k_ hk_=>hk_.1.2));have n11_:=a0_ (R_mono (ok':=fun k_=>some k_ ≠ (.slice Ao43 t11.length co43 : Value).ownBlock ∧ some k_ ≠ (.slice Ao58 t21.length co58 : Value).ownBlock ∧ some k_ ≠ (.slice Ao67 t25.length co67 : Value).ownBlock) (R_keptB ((R_apart' HO38.1 (R_typed Z21.out) (by decide))) hkp (fun k_ hk_ hs_=>(hk_.2) hs_)) (fun k_ hk_=>⟨hk_.1.1.1.1.2,hk_.1.1.1.2,hk_.1.1.2⟩));have n12_:=a0_ (hb);clear Z17 Z21;clear Z25 Z31;clear BK1 BK2;clear BK16 BK20;clear BK24 BK30;clear HO34 HO38 HB;have Z17:=n0_;have Z21:=n1_;have Z25:=n2_;have Z31:=n3_;have BK1:=n4_;have BK2:=n5_;have BK16:=n6_;have BK20:=n7_;have BK24:=n8_;have BK30:=n9_;have HO34:=n10_;have HO38:=n11_;have HB:=n12_;clear n0_ n1_ n2_ n3_ n4_ n5_ n6_ n7_ n8_ n9_ n10_ n11_ n12_;(try clear hb);(try clear hkp);(try clear hy0);have hnb138:=NB24_1.1;have hnc138:=NB1_24.1;have hnb139:=NB24_2.1;have hnc139:=NB2_24.1;have hnb140:=NB24_16.1;have hnc140:=NB16_24.1;have hnb141:=NB24_30.1;have hnc141:=NB30_24.1;have hcz142_0 : w137.cell? ⟨gb24,0,none⟩ = some (.slice Ao58 t21.length co58):=(blk_cell BK24.1 0).trans rfl;have hfz142_0:=blk_frozen BK24.1 0) | ((with_reducible refine gate_callee (f:=30) rfl ?_);refine goesL_ (some 87) rfl rfl Try.func30 (by kernel_rfl) rfl #[.agg #[.slice Ao58 t21.length co58],.int .i64 t40] rfl lm_ ?_;(with_reducible refine (laws_markHeap.calls kj26 (fun k_=>some k_ = (.slice Ao58 t21.length co58 : Value).ownBlock) (.slice Ao58 t21.length co58) t21 t40 t42 t43 w _ ?side1 ?side2 A121.1).mono ?_);(case side1=>exact hb_);(case side2=>exact R_tight rfl Z25.out);rintro e w143 ⟨rfl,hy0,hb,hkp⟩;refine ⟨_,rfl,?_⟩;have n0_:=a0_ (R_mono (ok':=fun k_=>some k_ ≠ (.slice Ao58 t21.length co58 : Value).ownBlock ∧ some k_ ≠ (.slice Ao67 t25.length co67 : Value).ownBlock ∧ some k_ ≠ (.slice Ao129 t36.length co129 : Value).ownBlock) (R_keptB (Z17.out) hkp (fun k_ hk_ hs_=>(hk_.1) hs_)) (fun k_ hk_=>⟨hk_.1.1,hk_.1.2.1,hk_.1.2.2⟩));have n1_:=a0_ (R_mono (ok':=fun k_=>some k_ ≠ (.slice Ao125 t32.length co125 : Value).ownBlock) (R_keptB ((R_apart' Z21.out (R_typed Z25.out) (by decide))) hkp (fun k_ hk_ hs_=>(hk_.2) hs_)) (fun k_ hk_=>hk_.1.1.2));have n2_:=a0_ (R_reok rfl hy0 (fun k_ e_=>Z25.out.1 k_ e_));have n3_:=a0_ (R_mono (ok':=fun k_=>some k_ ≠ (.slice Ao43 t11.length co43 : Value).ownBlock ∧ some k_ ≠ (.slice Ao58 t21.length co58 : Value).ownBlock ∧ some k_ ≠ (.slice Ao129 t36.length co129 : Value).ownBlock) (R_keptB (Z31.out) hkp (fun k_ hk_ hs_=>(hk_.2.1) hs_)) (fun k_ hk_=>⟨hk_.1.1,hk_.1.2.1,hk_.1.2.2⟩));have n4_:=a0_ (blk_kept (bb_ BK1.1) hkp (fun hs_=>(fun e_=>(R_ne Z25.out BK1.1 (by decide)) e_) hs_));have n5_:=a0_ (blk_kept (bb_ BK2.1) hkp (fun hs_=>(fun e_=>(R_ne Z25.out BK2.1 (by decide)) e_) hs_));have n6_:=a0_ (blk_kept (bb_ BK16.1) hkp (fun hs_=>(fun e_=>(R_ne Z25.out BK16.1 (by decide)) e_) hs_));have n7_:=a0_ (blk_kept (bb_ BK20.1) hkp (fun hs_=>(fun e_=>(R_ne Z25.out BK20.1 (by decide)) e_) hs_));have n8_:=a0_ (blk_kept (bb_ BK24.1) hkp (fun hs_=>(fun e_=>(R_ne Z25.out BK24.1 (by decide)) e_) hs_));have n9_:=a0_ (blk_kept (bb_ BK30.1) hkp (fun hs_=>(fun e_=>(R_ne Z25.out BK30.1 (by decide)) e_) hs_));have n10_:=a0_ (R_mono (ok':=fun k_=>some k_ ≠ (.slice Ao49 t17.length co49 : Value).ownBlock) (R_keptB ((R_apart' HO34.1 (R_typed Z25.out) (by decide))) hkp (fun k_ hk_ hs_=>(hk_.2) hs_)) (fun k_ hk_=>hk_.1.1));have n11_:=a0_ (R_mono (ok':=fun k_=>some k_ ≠ (.slice Ao43 t11.length co43 : Value).ownBlock ∧ some k_ ≠ (.slice Ao58 t21.length co58 : Value).ownBlock ∧ some k_ ≠ (.slice Ao67 t25.length co67 : Value).ownBlock) (R_keptB (HO38.1) hkp (fun k_ hk_ hs_=>(hk_.2.1) hs_)) (fun k_ hk_=>⟨hk_.1.1,hk_.1.2.1,hk_.1.2.2⟩));have n12_:=a0_ (hb);clear Z17 Z21;clear Z25 Z31;clear BK1 BK2;clear BK16 BK20;clear BK24 BK30;clear HO34 HO38 HB;have Z17:=n0_;have Z21:=n1_;have Z25:=n2_;have Z31:=n3_;have BK1:=n4_;have BK2:=n5_;have BK16:=n6_;have BK20:=n7_;have BK24:=n8_;have BK30:=n9_;have HO34:=n10_;have HO38:=n11_;have HB:=n12_;clear n0_ n1_ n2_ n3_ n4_ n5_ n6_ n7_ n8_ n9_ n10_ n11_ n12_;(try clear hb);(try clear hkp);(try clear hy0)))
        (try simp only [Act.put,s1_,s2_,s3_])
        go_cut [105] (fun v105 wc=>∃ (kq : Nat) (x105_121 : Bool),v105 = .bool x105_121 ∧ Aside0 (laws_FnExactNewFault.j1 kq a2 a3 t14 t15 x105_121 l0_0 l1_0 t11 t25 = some r) ∧ Aside0 (kq ≤ kj26) ∧ Aside0 (Kd.R k79 79 wc w.heap.size (fun k_=>some k_ ≠ ((.slice Ao58 t21.length co58) : Value).ownBlock ∧ some k_ ≠ ((.slice Ao67 t25.length co67) : Value).ownBlock) (.slice Ao43 t11.length co43) t11) ∧ Aside0 (Kd.R k106 106 wc w.heap.size (fun _=>True) (.slice Ao49 t17.length co49) t41) ∧ Aside0 (Kd.R k79 79 wc w.heap.size (fun k_=>some k_ ≠ ((.slice Ao43 t11.length co43) : Value).ownBlock ∧ some k_ ≠ ((.slice Ao67 t25.length co67) : Value).ownBlock) (.slice Ao58 t21.length co58) t43) ∧ Aside0 (Kd.R k79 79 wc w.heap.size (fun k_=>some k_ ≠ ((.slice Ao43 t11.length co43) : Value).ownBlock ∧ some k_ ≠ ((.slice Ao58 t21.length co58) : Value).ownBlock) (.slice Ao67 t25.length co67) t25) ∧ Aside0 (wc.heap[gb1]? = some (.cells #[(.slice A0_0 l0_0.length c0_0)] 24 (0,0))) ∧ Aside0 (wc.heap[gb2]? = some (.cells #[(.slice A1_0 l1_0.length c1_0)] 27 (0,0))) ∧ Aside0 (wc.heap[gb16]? = some (.cells #[(.slice Ao43 t11.length co43)] 37 (0,0))) ∧ Aside0 (wc.heap[gb20]? = some (.cells #[(.slice Ao49 t17.length co49)] 33 (0,0))) ∧ Aside0 (wc.heap[gb24]? = some (.cells #[(.slice Ao58 t21.length co58)] 37 (0,0))) ∧ Aside0 (wc.heap[gb30]? = some (.cells #[(.slice Ao67 t25.length co67)] 37 (0,0))) ∧ Aside0 (Below w.heap.size w wc))
        case first =>
         have H:=HC122.1
         clear HC122
         by_cases c144 : t42 < 0
         ·rw [if_pos c144] at H
          have c144b0 : decide (t42 < 0) = true:=decide_eq_true c144
          clear c144
          (first | rw [c144b0] | (simp only [i64_w,i32_w];rw [c144b0]) | skip)
          have H':=a0_ H
          clear H
          go_wp2
          go_meet
          case rel=>exact ⟨_,(true),(by first | rfl | (simp;done) | (simp [*];done)),H',⟨by have:=HJ26.out;first | omega | exact Nat.le_refl _⟩,⟨by (with_reducible repeat (first | apply R_alloc | apply R_drewN | apply R_drew));exact R_mono Z17.out (fun _ hk=>⟨hk.1,hk.2.1⟩)⟩,⟨by (with_reducible repeat (first | apply R_alloc | apply R_drewN | apply R_drew));exact R_mono Z21.out (fun _ hk=>trivial)⟩,⟨by (with_reducible repeat (first | apply R_alloc | apply R_drewN | apply R_drew));exact R_mono Z25.out (fun _ hk=>⟨hk.1,hk.2.1⟩)⟩,⟨by (with_reducible repeat (first | apply R_alloc | apply R_drewN | apply R_drew));exact R_mono Z31.out (fun _ hk=>⟨hk.1,hk.2.1⟩)⟩,⟨by (with_reducible repeat (first | refine blk_drewN ?_ _ | refine blk_drew ?_ | refine blk_alloc ?_ _));exact BK1.1⟩,⟨by (with_reducible repeat (first | refine blk_drewN ?_ _ | refine blk_drew ?_ | refine blk_alloc ?_ _));exact BK2.1⟩,⟨by (with_reducible repeat (first | refine blk_drewN ?_ _ | refine blk_drew ?_ | refine blk_alloc ?_ _));exact BK16.1⟩,⟨by (with_reducible repeat (first | refine blk_drewN ?_ _ | refine blk_drew ?_ | refine blk_alloc ?_ _));exact BK20.1⟩,⟨by (with_reducible repeat (first | refine blk_drewN ?_ _ | refine blk_drew ?_ | refine blk_alloc ?_ _));exact BK24.1⟩,⟨by (with_reducible repeat (first | refine blk_drewN ?_ _ | refine blk_drew ?_ | refine blk_alloc ?_ _));exact BK30.1⟩,⟨hb_⟩⟩
         ·rw [if_neg c144] at H
          have c144b0 : decide (t42 < 0) = false:=decide_eq_false c144
          clear c144
          (first | rw [c144b0] | (simp only [i64_w,i32_w];rw [c144b0]) | skip)
          replace H:=Option.bind_eq_some_iff.mp H
          obtain ⟨t44,A1450,H⟩:=H
          replace H : (if t44 = true then (if t28 = t14 then (laws_FnExactNewFault.j1 kj26 a2 a3 t14 t15 (t29 != t15) l0_0 l1_0 t11 t25) else (laws_FnExactNewFault.j1 kj26 a2 a3 t14 t15 true l0_0 l1_0 t11 t25)) else (laws_FnExactNewFault.j1 kj26 a2 a3 t14 t15 true l0_0 l1_0 t11 t25)) = some r:=H
          have A145:=a0_ A1450
          clear A1450
          by_cases c146 : t44 = true
          ·subst c146
           have H1 : (if t28 = t14 then (laws_FnExactNewFault.j1 kj26 a2 a3 t14 t15 (t29 != t15) l0_0 l1_0 t11 t25) else (laws_FnExactNewFault.j1 kj26 a2 a3 t14 t15 true l0_0 l1_0 t11 t25)) = some r:=by rw [if_pos rfl] at H;exact H
           clear H
           have H:=H1
           clear H1
           by_cases c147 : t28 = t14
           ·rw [if_pos c147] at H
            have c147b0 : (t28 == t14) = true:=beq_iff_eq.mpr c147
            have c147b1 : (t28 != t14) = false:=bne_eq_false_iff_eq.mpr c147
            clear c147
            have H':=a0_ H
            clear H
            have hnb148:=NB30_1.1
            have hnc148:=NB1_30.1
            have hnb149:=NB30_2.1
            have hnc149:=NB2_30.1
            have hnb150:=NB30_16.1
            have hnc150:=NB16_30.1
            have hnb151:=NB30_20.1
            have hnc151:=NB20_30.1
            have hnb152:=NB30_24.1
            have hnc152:=NB24_30.1
            have hcz153_0 : w143.cell? ⟨gb30,0,none⟩ = some (.slice Ao67 t25.length co67):=(blk_cell BK30.1 0).trans rfl
            have hfz153_0:=blk_frozen BK30.1 0
            have hnb154:=NB16_1.1
            have hnc154:=NB1_16.1
            have hnb155:=NB16_2.1
            have hnc155:=NB2_16.1
            have hnb156:=NB16_20.1
            have hnc156:=NB20_16.1
            have hnb157:=NB16_24.1
            have hnc157:=NB24_16.1
            have hcz158_0 : w143.cell? ⟨gb16,0,none⟩ = some (.slice Ao43 t11.length co43):=(blk_cell BK16.1 0).trans rfl
            have hfz158_0:=blk_frozen BK16.1 0
            go_wp2_with (first | (go_at_call 21;(with_reducible refine (laws_eqHeap.calls kj26 _ _ t25 _ _ t11 true _ ?side1 ?side2 ?side3 ?side4 A145.1).mono ?_);(case side1=>exact cc_ (R_reads' Z31.out).2.2);(case side2=>exact (R_reads' Z31.out).2.1);(case side3=>exact cc_ (R_reads' Z17.out).2.2);(case side4=>exact (R_reads' Z17.out).2.1);rintro e w159 ⟨rfl,hb⟩;replace Z17:=rb_ Z17 hb;replace Z21:=rb_ Z21 hb;replace Z25:=rb_ Z25 hb;replace Z31:=rb_ Z31 hb;replace HO34:=rb_ HO34 hb;replace HO38:=rb_ HO38 hb;replace BK1:=kb_ BK1 hb;replace BK2:=kb_ BK2 hb;replace BK16:=kb_ BK16 hb;replace BK20:=kb_ BK20 hb;replace BK24:=kb_ BK24 hb;replace BK30:=kb_ BK30 hb;replace HB:=a0_ (below_step hb_ hb);(try clear hb);(try clear hb2);(try clear hk);(try clear hi)))
            go_meet
            case rel=>exact ⟨_,((t29 != t15)),(by first | rfl | (simp;done) | (simp [*];done)),H',⟨by have:=HJ26.out;first | omega | exact Nat.le_refl _⟩,⟨by (with_reducible repeat (first | apply R_alloc | apply R_drewN | apply R_drew));exact R_mono Z17.out (fun _ hk=>⟨hk.1,hk.2.1⟩)⟩,⟨by (with_reducible repeat (first | apply R_alloc | apply R_drewN | apply R_drew));exact R_mono Z21.out (fun _ hk=>trivial)⟩,⟨by (with_reducible repeat (first | apply R_alloc | apply R_drewN | apply R_drew));exact R_mono Z25.out (fun _ hk=>⟨hk.1,hk.2.1⟩)⟩,⟨by (with_reducible repeat (first | apply R_alloc | apply R_drewN | apply R_drew));exact R_mono Z31.out (fun _ hk=>⟨hk.1,hk.2.1⟩)⟩,⟨by (with_reducible repeat (first | refine blk_drewN ?_ _ | refine blk_drew ?_ | refine blk_alloc ?_ _));exact BK1.1⟩,⟨by (with_reducible repeat (first | refine blk_drewN ?_ _ | refine blk_drew ?_ | refine blk_alloc ?_ _));exact BK2.1⟩,⟨by (with_reducible repeat (first | refine blk_drewN ?_ _ | refine blk_drew ?_ | refine blk_alloc ?_ _));exact BK16.1⟩,⟨by (with_reducible repeat (first | refine blk_drewN ?_ _ | refine blk_drew ?_ | refine blk_alloc ?_ _));exact BK20.1⟩,⟨by (with_reducible repeat (first | refine blk_drewN ?_ _ | refine blk_drew ?_ | refine blk_alloc ?_ _));exact BK24.1⟩,⟨by (with_reducible repeat (first | refine blk_drewN ?_ _ | refine blk_drew ?_ | refine blk_alloc ?_ _));exact BK30.1⟩,⟨hb_⟩⟩
           ·rw [if_neg c147] at H
            have c147b0 : (t28 == t14) = false:=beq_eq_false_iff_ne.mpr c147
            have c147b1 : (t28 != t14) = true:=bne_iff_ne.mpr c147
            have H':=a0_ H
            clear H
            have hnb160:=NB30_1.1
            have hnc160:=NB1_30.1
            have hnb161:=NB30_2.1
            have hnc161:=NB2_30.1
            have hnb162:=NB30_16.1
            have hnc162:=NB16_30.1
            have hnb163:=NB30_20.1
            have hnc163:=NB20_30.1
            have hnb164:=NB30_24.1
            have hnc164:=NB24_30.1
            have hcz165_0 : w143.cell? ⟨gb30,0,none⟩ = some (.slice Ao67 t25.length co67):=(blk_cell BK30.1 0).trans rfl
            have hfz165_0:=blk_frozen BK30.1 0
            have hnb166:=NB16_1.1
            have hnc166:=NB1_16.1
            have hnb167:=NB16_2.1
            have hnc167:=NB2_16.1
            have hnb168:=NB16_20.1
            have hnc168:=NB20_16.1
            have hnb169:=NB16_24.1
            have hnc169:=NB24_16.1
            have hcz170_0 : w143.cell? ⟨gb16,0,none⟩ = some (.slice Ao43 t11.length co43):=(blk_cell BK16.1 0).trans rfl
            have hfz170_0:=blk_frozen BK16.1 0
            go_wp2_with (first | (go_at_call 21;(with_reducible refine (laws_eqHeap.calls kj26 _ _ t25 _ _ t11 true _ ?side1 ?side2 ?side3 ?side4 A145.1).mono ?_);(case side1=>exact cc_ (R_reads' Z31.out).2.2);(case side2=>exact (R_reads' Z31.out).2.1);(case side3=>exact cc_ (R_reads' Z17.out).2.2);(case side4=>exact (R_reads' Z17.out).2.1);rintro e w171 ⟨rfl,hb⟩;replace Z17:=rb_ Z17 hb;replace Z21:=rb_ Z21 hb;replace Z25:=rb_ Z25 hb;replace Z31:=rb_ Z31 hb;replace HO34:=rb_ HO34 hb;replace HO38:=rb_ HO38 hb;replace BK1:=kb_ BK1 hb;replace BK2:=kb_ BK2 hb;replace BK16:=kb_ BK16 hb;replace BK20:=kb_ BK20 hb;replace BK24:=kb_ BK24 hb;replace BK30:=kb_ BK30 hb;replace HB:=a0_ (below_step hb_ hb);(try clear hb);(try clear hb2);(try clear hk);(try clear hi)))
            go_meet
            case rel=>exact ⟨_,(true),(by first | rfl | (simp;done) | (simp [*];done)),H',⟨by have:=HJ26.out;first | omega | exact Nat.le_refl _⟩,⟨by (with_reducible repeat (first | apply R_alloc | apply R_drewN | apply R_drew));exact R_mono Z17.out (fun _ hk=>⟨hk.1,hk.2.1⟩)⟩,⟨by (with_reducible repeat (first | apply R_alloc | apply R_drewN | apply R_drew));exact R_mono Z21.out (fun _ hk=>trivial)⟩,⟨by (with_reducible repeat (first | apply R_alloc | apply R_drewN | apply R_drew));exact R_mono Z25.out (fun _ hk=>⟨hk.1,hk.2.1⟩)⟩,⟨by (with_reducible repeat (first | apply R_alloc | apply R_drewN | apply R_drew));exact R_mono Z31.out (fun _ hk=>⟨hk.1,hk.2.1⟩)⟩,⟨by (with_reducible repeat (first | refine blk_drewN ?_ _ | refine blk_drew ?_ | refine blk_alloc ?_ _));exact BK1.1⟩,⟨by (with_reducible repeat (first | refine blk_drewN ?_ _ | refine blk_drew ?_ | refine blk_alloc ?_ _));exact BK2.1⟩,⟨by (with_reducible repeat (first | refine blk_drewN ?_ _ | refine blk_drew ?_ | refine blk_alloc ?_ _));exact BK16.1⟩,⟨by (with_reducible repeat (first | refine blk_drewN ?_ _ | refine blk_drew ?_ | refine blk_alloc ?_ _));exact BK20.1⟩,⟨by (with_reducible repeat (first | refine blk_drewN ?_ _ | refine blk_drew ?_ | refine blk_alloc ?_ _));exact BK24.1⟩,⟨by (with_reducible repeat (first | refine blk_drewN ?_ _ | refine blk_drew ?_ | refine blk_alloc ?_ _));exact BK30.1⟩,⟨hb_⟩⟩
          ·replace c146:=Bool.eq_false_iff.mpr c146
           subst c146
           have H1 : (laws_FnExactNewFault.j1 kj26 a2 a3 t14 t15 true l0_0 l1_0 t11 t25) = some r:=by rw [if_neg (show ¬ (false = true) by decide)] at H;exact H
           clear H
           have H:=H1
           clear H1
           have H':=a0_ H
           clear H
           have hnb172:=NB30_1.1
           have hnc172:=NB1_30.1
           have hnb173:=NB30_2.1
           have hnc173:=NB2_30.1
           have hnb174:=NB30_16.1
           have hnc174:=NB16_30.1
           have hnb175:=NB30_20.1
           have hnc175:=NB20_30.1
           have hnb176:=NB30_24.1
           have hnc176:=NB24_30.1
           have hcz177_0 : w143.cell? ⟨gb30,0,none⟩ = some (.slice Ao67 t25.length co67):=(blk_cell BK30.1 0).trans rfl
           have hfz177_0:=blk_frozen BK30.1 0
           have hnb178:=NB16_1.1
           have hnc178:=NB1_16.1
           have hnb179:=NB16_2.1
           have hnc179:=NB2_16.1
           have hnb180:=NB16_20.1
           have hnc180:=NB20_16.1
           have hnb181:=NB16_24.1
           have hnc181:=NB24_16.1
           have hcz182_0 : w143.cell? ⟨gb16,0,none⟩ = some (.slice Ao43 t11.length co43):=(blk_cell BK16.1 0).trans rfl
           have hfz182_0:=blk_frozen BK16.1 0
           go_wp2_with (first | (go_at_call 21;(with_reducible refine (laws_eqHeap.calls kj26 _ _ t25 _ _ t11 false _ ?side1 ?side2 ?side3 ?side4 A145.1).mono ?_);(case side1=>exact cc_ (R_reads' Z31.out).2.2);(case side2=>exact (R_reads' Z31.out).2.1);(case side3=>exact cc_ (R_reads' Z17.out).2.2);(case side4=>exact (R_reads' Z17.out).2.1);rintro e w183 ⟨rfl,hb⟩;replace Z17:=rb_ Z17 hb;replace Z21:=rb_ Z21 hb;replace Z25:=rb_ Z25 hb;replace Z31:=rb_ Z31 hb;replace HO34:=rb_ HO34 hb;replace HO38:=rb_ HO38 hb;replace BK1:=kb_ BK1 hb;replace BK2:=kb_ BK2 hb;replace BK16:=kb_ BK16 hb;replace BK20:=kb_ BK20 hb;replace BK24:=kb_ BK24 hb;replace BK30:=kb_ BK30 hb;replace HB:=a0_ (below_step hb_ hb);(try clear hb);(try clear hb2);(try clear hk);(try clear hi)))
           go_meet
           case rel=>exact ⟨_,(true),(by first | rfl | (simp;done) | (simp [*];done)),H',⟨by have:=HJ26.out;first | omega | exact Nat.le_refl _⟩,⟨by (with_reducible repeat (first | apply R_alloc | apply R_drewN | apply R_drew));exact R_mono Z17.out (fun _ hk=>⟨hk.1,hk.2.1⟩)⟩,⟨by (with_reducible repeat (first | apply R_alloc | apply R_drewN | apply R_drew));exact R_mono Z21.out (fun _ hk=>trivial)⟩,⟨by (with_reducible repeat (first | apply R_alloc | apply R_drewN | apply R_drew));exact R_mono Z25.out (fun _ hk=>⟨hk.1,hk.2.1⟩)⟩,⟨by (with_reducible repeat (first | apply R_alloc | apply R_drewN | apply R_drew));exact R_mono Z31.out (fun _ hk=>⟨hk.1,hk.2.1⟩)⟩,⟨by (with_reducible repeat (first | refine blk_drewN ?_ _ | refine blk_drew ?_ | refine blk_alloc ?_ _));exact BK1.1⟩,⟨by (with_reducible repeat (first | refine blk_drewN ?_ _ | refine blk_drew ?_ | refine blk_alloc ?_ _));exact BK2.1⟩,⟨by (with_reducible repeat (first | refine blk_drewN ?_ _ | refine blk_drew ?_ | refine blk_alloc ?_ _));exact BK16.1⟩,⟨by (with_reducible repeat (first | refine blk_drewN ?_ _ | refine blk_drew ?_ | refine blk_alloc ?_ _));exact BK20.1⟩,⟨by (with_reducible repeat (first | refine blk_drewN ?_ _ | refine blk_drew ?_ | refine blk_alloc ?_ _));exact BK24.1⟩,⟨by (with_reducible repeat (first | refine blk_drewN ?_ _ | refine blk_drew ?_ | refine blk_alloc ?_ _));exact BK30.1⟩,⟨hb_⟩⟩
        case rest =>
         clear HC122
         try clear c1
         try clear c2
         try clear p2
         try clear c3
         try clear c10
         try clear c11
         try clear c13
         try clear c14
         try clear c15
         try clear c16
         try clear c17
         try clear c18
         try clear c20
         try clear c21
         try clear c29
         try clear c30
         try clear c102
         try clear c103
         try clear c104
         try clear c105
         try clear c107
         try clear c108
         try clear c109
         try clear c110
         try clear c113
         try clear c116
         try clear c119
         try clear c131
         try clear c132
         try clear c133
         try clear c134
         try clear c135
         try clear c138
         try clear c139
         try clear c140
         try clear c141
         try clear c144
         try clear c144b0
         try clear c146
         try clear c147
         try clear c147b0
         try clear c147b1
         try clear c148
         try clear c149
         try clear c150
         try clear c151
         try clear c152
         try clear c154
         try clear c155
         try clear c156
         try clear c157
         try clear c160
         try clear c161
         try clear c162
         try clear c163
         try clear c164
         try clear c166
         try clear c167
         try clear c168
         try clear c169
         try clear c172
         try clear c173
         try clear c174
         try clear c175
         try clear c176
         try clear c178
         try clear c179
         try clear c180
         try clear c181
         try clear hcz106_0
         try clear hcz111_0
         try clear hcz136_0
         try clear hcz142_0
         try clear hcz153_0
         try clear hcz158_0
         try clear hcz165_0
         try clear hcz170_0
         try clear hcz177_0
         try clear hcz182_0
         try clear hcz46_0
         try clear hcz53_0
         try clear hcz55_0
         try clear hcz63_0
         try clear hcz64_0
         try clear hcz73_0
         try clear hcz82_0
         try clear hcz87_0
         try clear hcz94_0
         try clear hcz99_0
         try clear hfz106_0
         try clear hfz111_0
         try clear hfz136_0
         try clear hfz142_0
         try clear hfz153_0
         try clear hfz158_0
         try clear hfz165_0
         try clear hfz170_0
         try clear hfz177_0
         try clear hfz182_0
         try clear hfz46_0
         try clear hfz53_0
         try clear hfz55_0
         try clear hfz63_0
         try clear hfz64_0
         try clear hfz73_0
         try clear hfz82_0
         try clear hfz87_0
         try clear hfz94_0
         try clear hfz99_0
         obtain ⟨kq,x105_121,rfl,HA,HJ121,Z17,Z21,Z25,Z31,BK1,BK2,BK16,BK20,BK24,BK30,HB⟩:=hcut
         have hl21000_121:=(R_reads' Z21.out).1
         rw [hl21000_121] at Z21
         (try simp only [hl21000_121])
         (try simp only [hl21000_121] at BK1)
         (try simp only [hl21000_121] at BK2)
         (try simp only [hl21000_121] at BK16)
         (try simp only [hl21000_121] at BK20)
         (try simp only [hl21000_121] at BK24)
         (try simp only [hl21000_121] at BK30)
         (try simp only [hl21000_121] at Z17)
         (try simp only [hl21000_121] at Z25)
         (try simp only [hl21000_121] at Z31)
         have hl25000_121:=(R_reads' Z25.out).1
         rw [hl25000_121] at Z25
         (try simp only [hl25000_121])
         (try simp only [hl25000_121] at BK1)
         (try simp only [hl25000_121] at BK2)
         (try simp only [hl25000_121] at BK16)
         (try simp only [hl25000_121] at BK20)
         (try simp only [hl25000_121] at BK24)
         (try simp only [hl25000_121] at BK30)
         (try simp only [hl25000_121] at Z17)
         (try simp only [hl25000_121] at Z21)
         (try simp only [hl25000_121] at Z31)
         cases kq with
         | zero=>exact absurd HA.out (by simp [laws_FnExactNewFault.j1])
         | succ kj121 =>
          have H:=HA.out
          clear HA
          simp only [laws_FnExactNewFault.j1] at H
          by_cases c184 : x105_121 = true
          ·subst c184
           have H1 : (some false) = some r:=by rw [if_pos rfl] at H;exact H
           clear H
           have H:=H1
           clear H1
           obtain rfl:=Option.some.inj H
           go_wp2
           go_ret
           exact ⟨by first | rfl | (simp [errW_none,errW_some] <;> rfl) | (simp [*,errW_none,errW_some] <;> rfl),hb_⟩
          ·replace c184:=Bool.eq_false_iff.mpr c184
           subst c184
           have H1 : ((laws_markHeap.f kj121 t25 1).bind fun bt45=>((laws_heldHeap.f kj121 bt45.2 1).bind fun t47=>(if t47 < 0 then (some false) else (if t47 = bt45.1 then ((laws_toTree.f kj121 l0_0).bind fun t48=>((laws_toHeap.f kj121 l1_0).bind fun t51=>((impl_NewFault.f t48 t51 a2 a3).bind fun bt54=>((laws_eqHeap.f kj121 bt54.1 t11).bind fun t60=>(if t60 = true then (if bt54.2.1 = t14 then (laws_FnExactNewFault.j2 kj121 bt45.1 (bt54.2.2 != t15) bt45.2) else (laws_FnExactNewFault.j2 kj121 bt45.1 true bt45.2)) else (laws_FnExactNewFault.j2 kj121 bt45.1 true bt45.2)))))) else (some false))))) = some r:=by rw [if_neg (show ¬ (false = true) by decide)] at H;exact H
           clear H
           have H:=H1
           clear H1
           replace H:=Option.bind_eq_some_iff.mp H
           obtain ⟨⟨t45,t46⟩,A1850,H⟩:=H
           replace H : ((laws_heldHeap.f kj121 t46 1).bind fun t47=>(if t47 < 0 then (some false) else (if t47 = t45 then ((laws_toTree.f kj121 l0_0).bind fun t48=>((laws_toHeap.f kj121 l1_0).bind fun t51=>((impl_NewFault.f t48 t51 a2 a3).bind fun bt54=>((laws_eqHeap.f kj121 bt54.1 t11).bind fun t60=>(if t60 = true then (if bt54.2.1 = t14 then (laws_FnExactNewFault.j2 kj121 t45 (bt54.2.2 != t15) t46) else (laws_FnExactNewFault.j2 kj121 t45 true t46)) else (laws_FnExactNewFault.j2 kj121 t45 true t46)))))) else (some false)))) = some r:=H
           have A185:=a0_ A1850
           clear A1850
           replace H:=Option.bind_eq_some_iff.mp H
           obtain ⟨t47,A1860,H⟩:=H
           replace H : (if t47 < 0 then (some false) else (if t47 = t45 then ((laws_toTree.f kj121 l0_0).bind fun t48=>((laws_toHeap.f kj121 l1_0).bind fun t51=>((impl_NewFault.f t48 t51 a2 a3).bind fun bt54=>((laws_eqHeap.f kj121 bt54.1 t11).bind fun t60=>(if t60 = true then (if bt54.2.1 = t14 then (laws_FnExactNewFault.j2 kj121 t45 (bt54.2.2 != t15) t46) else (laws_FnExactNewFault.j2 kj121 t45 true t46)) else (laws_FnExactNewFault.j2 kj121 t45 true t46)))))) else (some false))) = some r:=H
           have A186:=a0_ A1860
           clear A1860
           by_cases c187 : t47 < 0
           ·rw [if_pos c187] at H
            have c187b0 : decide (t47 < 0) = true:=decide_eq_true c187
            clear c187
            obtain rfl:=Option.some.inj H
            have hnb188:=NB30_1.1
            have hnc188:=NB1_30.1
            have hnb189:=NB30_2.1
            have hnc189:=NB2_30.1
            have hnb190:=NB30_16.1
            have hnc190:=NB16_30.1
            have hnb191:=NB30_20.1
            have hnc191:=NB20_30.1
            have hnb192:=NB30_24.1
            have hnc192:=NB24_30.1
            have hcz193_0 : wc.cell? ⟨gb30,0,none⟩ = some (.slice Ao67 t25.length co67):=(blk_cell BK30.1 0).trans rfl
            have hfz193_0:=blk_frozen BK30.1 0
            go_wp2_with (first | ((with_reducible refine gate_callee (f:=30) rfl ?_);refine goesL_ (some 108) rfl rfl Try.func30 (by kernel_rfl) rfl #[.agg #[.slice Ao67 t25.length co67],.int .i64 1] rfl lm_ ?_;(with_reducible refine (laws_markHeap.calls kj121 (fun k_=>some k_ = (.slice Ao67 t25.length co67 : Value).ownBlock) (.slice Ao67 t25.length co67) t25 1 t45 t46 w _ ?side1 ?side2 A185.1).mono ?_);(case side1=>exact hb_);(case side2=>exact R_tight rfl Z31.out);rintro e w194 ⟨rfl,hy0,hb,hkp⟩;refine ⟨_,rfl,?_⟩;have n0_:=a0_ (R_mono (ok':=fun k_=>some k_ ≠ (.slice Ao58 t43.length co58 : Value).ownBlock ∧ some k_ ≠ (.slice Ao67 t25.length co67 : Value).ownBlock) (R_keptB (Z17.out) hkp (fun k_ hk_ hs_=>(hk_.2) hs_)) (fun k_ hk_=>⟨hk_.1.1,hk_.1.2⟩));have n1_:=a0_ (R_mono (ok':=fun k_=>True) (R_keptB ((R_apart' Z21.out (R_typed Z31.out) (by decide))) hkp (fun k_ hk_ hs_=>(hk_.2) hs_)) (fun k_ hk_=>trivial));have n2_:=a0_ (R_mono (ok':=fun k_=>some k_ ≠ (.slice Ao43 t11.length co43 : Value).ownBlock ∧ some k_ ≠ (.slice Ao67 t25.length co67 : Value).ownBlock) (R_keptB (Z25.out) hkp (fun k_ hk_ hs_=>(hk_.2) hs_)) (fun k_ hk_=>⟨hk_.1.1,hk_.1.2⟩));have n3_:=a0_ (R_reok rfl hy0 (fun k_ e_=>Z31.out.1 k_ e_));have n4_:=a0_ (blk_kept (bb_ BK1.1) hkp (fun hs_=>(fun e_=>(R_ne Z31.out BK1.1 (by decide)) e_) hs_));have n5_:=a0_ (blk_kept (bb_ BK2.1) hkp (fun hs_=>(fun e_=>(R_ne Z31.out BK2.1 (by decide)) e_) hs_));have n6_:=a0_ (blk_kept (bb_ BK16.1) hkp (fun hs_=>(fun e_=>(R_ne Z31.out BK16.1 (by decide)) e_) hs_));have n7_:=a0_ (blk_kept (bb_ BK20.1) hkp (fun hs_=>(fun e_=>(R_ne Z31.out BK20.1 (by decide)) e_) hs_));have n8_:=a0_ (blk_kept (bb_ BK24.1) hkp (fun hs_=>(fun e_=>(R_ne Z31.out BK24.1 (by decide)) e_) hs_));have n9_:=a0_ (blk_kept (bb_ BK30.1) hkp (fun hs_=>(fun e_=>(R_ne Z31.out BK30.1 (by decide)) e_) hs_));have n10_:=a0_ (hb);clear Z17 Z21;clear Z25 Z31;clear BK1 BK2;clear BK16 BK20;clear BK24 BK30 HB;have Z17:=n0_;have Z21:=n1_;have Z25:=n2_;have Z31:=n3_;have BK1:=n4_;have BK2:=n5_;have BK16:=n6_;have BK20:=n7_;have BK24:=n8_;have BK30:=n9_;have HB:=n10_;clear n0_ n1_ n2_ n3_ n4_ n5_ n6_ n7_ n8_ n9_ n10_;(try clear hb);(try clear hkp);(try clear hy0);have hcz195_0 : w194.cell? ⟨gb30,0,none⟩ = some (.slice Ao67 t25.length co67):=(blk_cell BK30.1 0).trans rfl;have hfz195_0:=blk_frozen BK30.1 0) | ((with_reducible refine gate_callee (f:=37) rfl ?_);refine goesL_ (some 111) rfl rfl Try.func37 (by kernel_rfl) rfl #[.agg #[.slice Ao67 t46.length co67],.int .i64 1] rfl (by (try simp only [List.map_toArray,List.map_cons,List.map_nil]);first | done | (rw [show t46.length = t25.length from (R_reads' Z31.out).1.symm] <;> rfl) | rfl | (simp only [List.length_drop,List.length_take];rfl)) ?_;(with_reducible refine (laws_heldHeap.calls kj121 _ _ t46 1 t47 _ ?side1 ?side2 A186.1).mono ?_);(case side1=>exact cc_ (R_reads' Z31.out).2.2);(case side2=>rw [show t46.length = t25.length from (R_reads' Z31.out).1.symm];exact (R_reads' Z31.out).2.1);rintro e w196 ⟨rfl,hb⟩;refine ⟨_,rfl,?_⟩;replace Z17:=rb_ Z17 hb;replace Z21:=rb_ Z21 hb;replace Z25:=rb_ Z25 hb;replace Z31:=rb_ Z31 hb;replace BK1:=kb_ BK1 hb;replace BK2:=kb_ BK2 hb;replace BK16:=kb_ BK16 hb;replace BK20:=kb_ BK20 hb;replace BK24:=kb_ BK24 hb;replace BK30:=kb_ BK30 hb;replace HB:=a0_ (below_step hb_ hb);(try clear hb);(try clear hb2);(try clear hk);(try clear hi)))
            go_ret
            exact ⟨by first | rfl | (simp [errW_none,errW_some] <;> rfl) | (simp [*,errW_none,errW_some] <;> rfl),hb_⟩
           ·rw [if_neg c187] at H
            have c187b0 : decide (t47 < 0) = false:=decide_eq_false c187
            clear c187
            by_cases c197 : t47 = t45
            ·rw [if_pos c197] at H
             have c197b0 : (t47 == t45) = true:=beq_iff_eq.mpr c197
             have c197b1 : (t47 != t45) = false:=bne_eq_false_iff_eq.mpr c197
             clear c197
             replace H:=Option.bind_eq_some_iff.mp H
             obtain ⟨t48,A1980,H⟩:=H
             replace H : ((laws_toHeap.f kj121 l1_0).bind fun t51=>((impl_NewFault.f t48 t51 a2 a3).bind fun bt54=>((laws_eqHeap.f kj121 bt54.1 t11).bind fun t60=>(if t60 = true then (if bt54.2.1 = t14 then (laws_FnExactNewFault.j2 kj121 t45 (bt54.2.2 != t15) t46) else (laws_FnExactNewFault.j2 kj121 t45 true t46)) else (laws_FnExactNewFault.j2 kj121 t45 true t46))))) = some r:=H
             have A198:=a0_ A1980
             clear A1980
             replace H:=Option.bind_eq_some_iff.mp H
             obtain ⟨t51,A1990,H⟩:=H
             replace H : ((impl_NewFault.f t48 t51 a2 a3).bind fun bt54=>((laws_eqHeap.f kj121 bt54.1 t11).bind fun t60=>(if t60 = true then (if bt54.2.1 = t14 then (laws_FnExactNewFault.j2 kj121 t45 (bt54.2.2 != t15) t46) else (laws_FnExactNewFault.j2 kj121 t45 true t46)) else (laws_FnExactNewFault.j2 kj121 t45 true t46)))) = some r:=H
             have A199:=a0_ A1990
             clear A1990
             replace H:=Option.bind_eq_some_iff.mp H
             obtain ⟨⟨t54,t57,t58⟩,A2000,H⟩:=H
             replace H : ((laws_eqHeap.f kj121 t54 t11).bind fun t60=>(if t60 = true then (if t57 = t14 then (laws_FnExactNewFault.j2 kj121 t45 (t58 != t15) t46) else (laws_FnExactNewFault.j2 kj121 t45 true t46)) else (laws_FnExactNewFault.j2 kj121 t45 true t46))) = some r:=H
             have A200:=a0_ A2000
             clear A2000
             have HC201:=a0_ H
             clear H
             have hnb202:=NB30_1.1
             have hnc202:=NB1_30.1
             have hnb203:=NB30_2.1
             have hnc203:=NB2_30.1
             have hnb204:=NB30_16.1
             have hnc204:=NB16_30.1
             have hnb205:=NB30_20.1
             have hnc205:=NB20_30.1
             have hnb206:=NB30_24.1
             have hnc206:=NB24_30.1
             have hcz207_0 : wc.cell? ⟨gb30,0,none⟩ = some (.slice Ao67 t25.length co67):=(blk_cell BK30.1 0).trans rfl
             have hfz207_0:=blk_frozen BK30.1 0
             try go_wp2_with (first | ((with_reducible refine gate_callee (f:=30) rfl ?_);refine goesL_ (some 108) rfl rfl Try.func30 (by kernel_rfl) rfl #[.agg #[.slice Ao67 t25.length co67],.int .i64 1] rfl lm_ ?_;(with_reducible refine (laws_markHeap.calls kj121 (fun k_=>some k_ = (.slice Ao67 t25.length co67 : Value).ownBlock) (.slice Ao67 t25.length co67) t25 1 t45 t46 w _ ?side1 ?side2 A185.1).mono ?_);(case side1=>exact hb_);(case side2=>exact R_tight rfl Z31.out);rintro e w208 ⟨rfl,hy0,hb,hkp⟩;refine ⟨_,rfl,?_⟩;have n0_:=a0_ (R_mono (ok':=fun k_=>some k_ ≠ (.slice Ao58 t43.length co58 : Value).ownBlock ∧ some k_ ≠ (.slice Ao67 t25.length co67 : Value).ownBlock) (R_keptB (Z17.out) hkp (fun k_ hk_ hs_=>(hk_.2) hs_)) (fun k_ hk_=>⟨hk_.1.1,hk_.1.2⟩));have n1_:=a0_ (R_mono (ok':=fun k_=>True) (R_keptB ((R_apart' Z21.out (R_typed Z31.out) (by decide))) hkp (fun k_ hk_ hs_=>(hk_.2) hs_)) (fun k_ hk_=>trivial));have n2_:=a0_ (R_mono (ok':=fun k_=>some k_ ≠ (.slice Ao43 t11.length co43 : Value).ownBlock ∧ some k_ ≠ (.slice Ao67 t25.length co67 : Value).ownBlock) (R_keptB (Z25.out) hkp (fun k_ hk_ hs_=>(hk_.2) hs_)) (fun k_ hk_=>⟨hk_.1.1,hk_.1.2⟩));have n3_:=a0_ (R_reok rfl hy0 (fun k_ e_=>Z31.out.1 k_ e_));have n4_:=a0_ (blk_kept (bb_ BK1.1) hkp (fun hs_=>(fun e_=>(R_ne Z31.out BK1.1 (by decide)) e_) hs_));have n5_:=a0_ (blk_kept (bb_ BK2.1) hkp (fun hs_=>(fun e_=>(R_ne Z31.out BK2.1 (by decide)) e_) hs_));have n6_:=a0_ (blk_kept (bb_ BK16.1) hkp (fun hs_=>(fun e_=>(R_ne Z31.out BK16.1 (by decide)) e_) hs_));have n7_:=a0_ (blk_kept (bb_ BK20.1) hkp (fun hs_=>(fun e_=>(R_ne Z31.out BK20.1 (by decide)) e_) hs_));have n8_:=a0_ (blk_kept (bb_ BK24.1) hkp (fun hs_=>(fun e_=>(R_ne Z31.out BK24.1 (by decide)) e_) hs_));have n9_:=a0_ (blk_kept (bb_ BK30.1) hkp (fun hs_=>(fun e_=>(R_ne Z31.out BK30.1 (by decide)) e_) hs_));have n10_:=a0_ (hb);clear Z17 Z21;clear Z25 Z31;clear BK1 BK2;clear BK16 BK20;clear BK24 BK30 HB;have Z17:=n0_;have Z21:=n1_;have Z25:=n2_;have Z31:=n3_;have BK1:=n4_;have BK2:=n5_;have BK16:=n6_;have BK20:=n7_;have BK24:=n8_;have BK30:=n9_;have HB:=n10_;clear n0_ n1_ n2_ n3_ n4_ n5_ n6_ n7_ n8_ n9_ n10_;(try clear hb);(try clear hkp);(try clear hy0);have hcz209_0 : w208.cell? ⟨gb30,0,none⟩ = some (.slice Ao67 t25.length co67):=(blk_cell BK30.1 0).trans rfl;have hfz209_0:=blk_frozen BK30.1 0) | ((with_reducible refine gate_callee (f:=37) rfl ?_);refine goesL_ (some 111) rfl rfl Try.func37 (by kernel_rfl) rfl #[.agg #[.slice Ao67 t46.length co67],.int .i64 1] rfl (by (try simp only [List.map_toArray,List.map_cons,List.map_nil]);first | done | (rw [show t46.length = t25.length from (R_reads' Z31.out).1.symm] <;> rfl) | rfl | (simp only [List.length_drop,List.length_take];rfl)) ?_;(with_reducible refine (laws_heldHeap.calls kj121 _ _ t46 1 t47 _ ?side1 ?side2 A186.1).mono ?_);(case side1=>exact cc_ (R_reads' Z31.out).2.2);(case side2=>rw [show t46.length = t25.length from (R_reads' Z31.out).1.symm];exact (R_reads' Z31.out).2.1);rintro e w210 ⟨rfl,hb⟩;refine ⟨_,rfl,?_⟩;replace Z17:=rb_ Z17 hb;replace Z21:=rb_ Z21 hb;replace Z25:=rb_ Z25 hb;replace Z31:=rb_ Z31 hb;replace BK1:=kb_ BK1 hb;replace BK2:=kb_ BK2 hb;replace BK16:=kb_ BK16 hb;replace BK20:=kb_ BK20 hb;replace BK24:=kb_ BK24 hb;replace BK30:=kb_ BK30 hb;replace HB:=a0_ (below_step hb_ hb);(try clear hb);(try clear hb2);(try clear hk);(try clear hi)))
             have n0_:=a0_ (R_drew Z17.out)
             have n1_:=a0_ (R_drew Z21.out)
             have n2_:=a0_ (R_drew Z25.out)
             have n3_:=a0_ (R_drew Z31.out)
             have n4_:=a0_ (blk_drew BK1.1)
             have n5_:=a0_ (blk_drew BK2.1)
             have n6_:=a0_ (blk_drew BK16.1)
             have n7_:=a0_ (blk_drew BK20.1)
             have n8_:=a0_ (blk_drew BK24.1)
             have n9_:=a0_ (blk_drew BK30.1)
             have n10_:=a0_ (below_drew1 HB.1)
             clear Z17
             clear Z21
             clear Z25
             clear Z31
             clear BK1
             clear BK2
             clear BK16
             clear BK20
             clear BK24
             clear BK30
             clear HB
             have Z17:=n0_
             have Z21:=n1_
             have Z25:=n2_
             have Z31:=n3_
             have BK1:=n4_
             have BK2:=n5_
             have BK16:=n6_
             have BK20:=n7_
             have BK24:=n8_
             have BK30:=n9_
             have HB:=n10_
             clear n0_ n1_ n2_ n3_ n4_ n5_ n6_ n7_ n8_ n9_ n10_
             refine start_ (n:=15) (S:=fun w'=>w'.cell? ⟨gb1,0,none⟩ = some (.slice A0_0 l0_0.length c0_0) ∧ w'.cell? ⟨gb2,0,none⟩ = some (.slice A1_0 l1_0.length c1_0)) (ds:=[]) #[false,false,false,false,false,false,false,false,false,false,false,false,false,false,false] (by kernel_rfl) rfl rfl ⟨(blk_cell BK1.1 0).trans rfl,(blk_cell BK2.1 0).trans rfl⟩ (fun hHeld=>?_);refine with_tabW laws_FnExactNewFault.tab31 laws_FnExactNewFault.bits31 (fun HT_ HW_=>?_)
             generalize w210.drew = w211 at Z17 Z21 Z25 Z31 BK1 BK2 BK16 BK20 BK24 BK30 HB hHeld ⊢
             refine pure_ (i:=4) (N:=some 122) (v:=?_) (a':=?_) #[false,false,false,false,true,false,false,false,false,false,false,false,false,false,false] rfl rfl (any_of HT_.out (by kernel_rfl)) (fun _ _ _ h=>h) (Or.inl ⟨by rfl,?_⟩) ?_ ?_
             rotate_left
             ·intro w'
              go_simp
              with_reducible rfl
             rotate_left
             ·simp only [Act.put,s1_,s2_,s3_,i64_w,i32_w]
              rfl
             refine pure_ (i:=5) (N:=some 123) (v:=?_) (a':=?_) #[false,false,false,false,true,true,false,false,false,false,false,false,false,false,false] rfl rfl (any_of HT_.out (by kernel_rfl)) (fun _ _ _ h=>h) (Or.inl ⟨by rfl,?_⟩) ?_ ?_
             rotate_left
             ·intro w'
              go_simp
              with_reducible rfl
             rotate_left
             ·simp only [Act.put,s1_,s2_,s3_,i64_w,i32_w]
              rfl
             refine take_ (i:=0) (N:=some 118) (v:=?_) (a':=?_) #[true,false,false,false,true,true,false,false,false,false,false,false,false,false,false] rfl rfl (take_ofW HT_.out HW_.out (by kernel_rfl)) (fun _ _ _ h=>h) (Or.inl ⟨by rfl,?_⟩) hHeld ?_ ?_
             rotate_left
             ·rintro w' ⟨s0,s1⟩
              go_simp
              with_reducible rfl
             rotate_left
             ·simp only [Act.put,s1_,s2_,s3_,i64_w,i32_w]
              rfl
             refine take_ (i:=2) (N:=some 120) (v:=?_) (a':=?_) #[true,false,true,false,true,true,false,false,false,false,false,false,false,false,false] rfl rfl (take_ofW HT_.out HW_.out (by kernel_rfl)) (fun _ _ _ h=>h) (Or.inl ⟨by rfl,?_⟩) hHeld ?_ ?_
             rotate_left
             ·rintro w' ⟨s0,s1⟩
              go_simp
              with_reducible rfl
             rotate_left
             ·simp only [Act.put,s1_,s2_,s3_,i64_w,i32_w]
              rfl
             refine join_ (σ:=Value × Value × Value × Nat) 3 #[true,true,true,true,true,true,true,true,true,true,true,true,false,false,false] (fun s_=>[(119,.agg #[s_.1]),(121,.agg #[s_.2.1]),(124,.tuple #[.agg #[s_.2.2.1],.int .i64 t57,.bool t58]),(21,.pointer (some ⟨s_.2.2.2,0,none⟩)),(117,.tuple #[.agg #[s_.2.2.1],.int .i64 t57,.bool t58]),(125,.agg #[s_.2.2.1]),(126,.int .i64 t57),(127,.bool t58)]) (fun s_ w'=>(w'.cell? ⟨gb1,0,none⟩ = some (.slice A0_0 l0_0.length c0_0) ∧ w'.cell? ⟨gb2,0,none⟩ = some (.slice A1_0 l1_0.length c1_0)) ∧ (Kd.R k106 106 w' w.heap.size (fun k_=>some k_ ≠ (.slice Ao49 t41.length co49 : Value).ownBlock) s_.1 t48) ∧ (Kd.R k79 79 w' w.heap.size (fun k_=>some k_ ≠ (s_.2.2.1 : Value).ownBlock ∧ some k_ ≠ (.slice Ao43 t11.length co43 : Value).ownBlock ∧ some k_ ≠ (.slice Ao58 t43.length co58 : Value).ownBlock ∧ some k_ ≠ (.slice Ao67 t25.length co67 : Value).ownBlock) s_.2.1 t51) ∧ (Kd.R k79 79 w' w.heap.size (fun k_=>some k_ ≠ (s_.2.1 : Value).ownBlock ∧ some k_ ≠ (.slice Ao43 t11.length co43 : Value).ownBlock ∧ some k_ ≠ (.slice Ao58 t43.length co58 : Value).ownBlock ∧ some k_ ≠ (.slice Ao67 t25.length co67 : Value).ownBlock) s_.2.2.1 t54) ∧ (Kd.R k79 79 w' w.heap.size (fun k_=>some k_ ≠ (s_.2.1 : Value).ownBlock ∧ some k_ ≠ (s_.2.2.1 : Value).ownBlock ∧ some k_ ≠ (.slice Ao58 t43.length co58 : Value).ownBlock ∧ some k_ ≠ (.slice Ao67 t25.length co67 : Value).ownBlock) (.slice Ao43 t11.length co43) t11) ∧ (Kd.R k106 106 w' w.heap.size (fun k_=>some k_ ≠ (s_.1 : Value).ownBlock) (.slice Ao49 t41.length co49) t41) ∧ (Kd.R k79 79 w' w.heap.size (fun k_=>some k_ ≠ (s_.2.1 : Value).ownBlock ∧ some k_ ≠ (s_.2.2.1 : Value).ownBlock ∧ some k_ ≠ (.slice Ao43 t11.length co43 : Value).ownBlock ∧ some k_ ≠ (.slice Ao67 t25.length co67 : Value).ownBlock) (.slice Ao58 t43.length co58) t43) ∧ (Kd.R k79 79 w' w.heap.size (fun k_=>some k_ ≠ (s_.2.1 : Value).ownBlock ∧ some k_ ≠ (s_.2.2.1 : Value).ownBlock ∧ some k_ ≠ (.slice Ao43 t11.length co43 : Value).ownBlock ∧ some k_ ≠ (.slice Ao58 t43.length co58 : Value).ownBlock) (.slice Ao67 t25.length co67) t46) ∧ (w'.heap[gb1]? = some (.cells #[.slice A0_0 l0_0.length c0_0] 24 (0,0))) ∧ (w'.heap[gb16]? = some (.cells #[.slice Ao43 t11.length co43] 37 (0,0))) ∧ (w'.heap[gb2]? = some (.cells #[.slice A1_0 l1_0.length c1_0] 27 (0,0))) ∧ (w'.heap[gb20]? = some (.cells #[.slice Ao49 t41.length co49] 33 (0,0))) ∧ (w'.heap[gb24]? = some (.cells #[.slice Ao58 t43.length co58] 37 (0,0))) ∧ (w'.heap[gb30]? = some (.cells #[.slice Ao67 t25.length co67] 37 (0,0))) ∧ (w'.heap[s_.2.2.2]? = some (.cells #[.slice none 0 0] 37 (0,0))) ∧ (w.heap.size ≤ s_.2.2.2) ∧ (w.heap.size ≤ s_.2.2.2) ∧ (gb1 ≠ s_.2.2.2) ∧ (s_.2.2.2 ≠ gb1) ∧ (gb16 ≠ s_.2.2.2) ∧ (s_.2.2.2 ≠ gb16) ∧ (gb2 ≠ s_.2.2.2) ∧ (s_.2.2.2 ≠ gb2) ∧ (gb20 ≠ s_.2.2.2) ∧ (s_.2.2.2 ≠ gb20) ∧ (gb24 ≠ s_.2.2.2) ∧ (s_.2.2.2 ≠ gb24) ∧ (gb30 ≠ s_.2.2.2) ∧ (s_.2.2.2 ≠ gb30) ∧ (Below w.heap.size w w')) ?_ ?_
             rotate_left
             ·intro hCont
              refine two_ (i:=1) (j:=11) (Ni:=some 119) (Nj:=some 21) #[true,true,true,false,true,true,false,false,false,false,false,false,false,false,false] #[true,false,true,false,true,true,false,false,false,false,false,true,false,false,false] rfl rfl rfl rfl (two_of HT_.out (by kernel_rfl)) (by decide) (by decide) (fun K hK=>?_) (fun K hK=>?_)
              ·skip
               refine goes_ Try.func17 (by kernel_rfl) rfl #[.agg #[.slice A0_0 l0_0.length c0_0]] (by rfl) rfl rfl lm_ ?_
               with_reducible refine (laws_toTree.calls kj121 _ _ l0_0 t48 _ ?side1 ?side2 A198.1).mono ?_
               (case side1=>exact cc_ (C_below HR0_0.1 HB.1))
               (case side2=>exact HC0_0.1)
               rintro e w212 ⟨v49,rfl,ho0,hb⟩
               refine ⟨_,rfl,?_⟩
               have n0_:=rb_ Z17 hb
               have n1_:=a0_ (R_elder' (rr_ Z21.out) (R_base ho0) hb)
               have n2_:=rb_ Z25 hb
               have n3_:=rb_ Z31 hb
               have n4_:=a0_ (R_lower (R_new' ho0 (R_lt (rr_ Z21.out))) (below_size hb_))
               have n5_:=kb_ BK1 hb
               have n6_:=kb_ BK2 hb
               have n7_:=kb_ BK16 hb
               have n8_:=kb_ BK20 hb
               have n9_:=kb_ BK24 hb
               have n10_:=kb_ BK30 hb
               have n11_:=a0_ (below_step hb_ hb)
               clear Z17
               clear Z21
               clear Z25
               clear Z31
               clear BK1
               clear BK2
               clear BK16
               clear BK20
               clear BK24
               clear BK30
               clear HB
               have Z17:=n0_
               have Z21:=n1_
               have Z25:=n2_
               have Z31:=n3_
               have HO50:=n4_
               have BK1:=n5_
               have BK2:=n6_
               have BK16:=n7_
               have BK20:=n8_
               have BK24:=n9_
               have BK30:=n10_
               have HB:=n11_
               clear n0_ n1_ n2_ n3_ n4_ n5_ n6_ n7_ n8_ n9_ n10_ n11_
               (try clear hb)
               (try clear hb2)
               (try clear hk)
               (try clear hi)
               (try clear ho0)
               refine hK.out _ _ ⟨(blk_cell BK1.1 0).trans rfl,(blk_cell BK2.1 0).trans rfl⟩ (fun hHeld=>?_)
               clear hK K
               refine norm_ (a':=?_) ?_ ?_
               rotate_left
               ·show Act.put _ (some 119) _ = _
                simp only [Act.put,s1_,s2_,s3_,i64_w,i32_w]
                rfl
               refine two_ (i:=3) (j:=11) (Ni:=some 121) (Nj:=some 21) #[true,true,true,true,true,true,false,false,false,false,false,false,false,false,false] #[true,true,true,false,true,true,false,false,false,false,false,true,false,false,false] rfl rfl rfl rfl (two_of HT_.out (by kernel_rfl)) (by decide) (by decide) (fun K hK=>?_) (fun K hK=>?_)
               ·skip
                refine goes_ Try.func18 (by kernel_rfl) rfl #[.agg #[.slice A1_0 l1_0.length c1_0]] (by rfl) rfl rfl lm_ ?_
                with_reducible refine (laws_toHeap.calls kj121 _ _ l1_0 t51 _ ?side1 ?side2 A199.1).mono ?_
                (case side1=>exact cc_ (C_below HR1_0.1 HB.1))
                (case side2=>exact HC1_0.1)
                rintro e w213 ⟨v52,rfl,ho0,hb⟩
                refine ⟨_,rfl,?_⟩
                have n0_:=a0_ (R_elder' (rr_ Z17.out) (R_base ho0) hb)
                have n1_:=rb_ Z21 hb
                have n2_:=a0_ (R_elder' (rr_ Z25.out) (R_base ho0) hb)
                have n3_:=a0_ (R_elder' (rr_ Z31.out) (R_base ho0) hb)
                have n4_:=rb_ HO50 hb
                have n5_:=a0_ (R_lower (R_new' (R_new' (R_new' ho0 (R_lt (rr_ Z17.out))) (R_lt (rr_ Z25.out))) (R_lt (rr_ Z31.out))) (below_size hb_))
                have n6_:=kb_ BK1 hb
                have n7_:=kb_ BK2 hb
                have n8_:=kb_ BK16 hb
                have n9_:=kb_ BK20 hb
                have n10_:=kb_ BK24 hb
                have n11_:=kb_ BK30 hb
                have n12_:=a0_ (below_step hb_ hb)
                clear Z17
                clear Z21
                clear Z25
                clear Z31
                clear HO50
                clear BK1
                clear BK2
                clear BK16
                clear BK20
                clear BK24
                clear BK30
                clear HB
                have Z17:=n0_
                have Z21:=n1_
                have Z25:=n2_
                have Z31:=n3_
                have HO50:=n4_
                have HO53:=n5_
                have BK1:=n6_
                have BK2:=n7_
                have BK16:=n8_
                have BK20:=n9_
                have BK24:=n10_
                have BK30:=n11_
                have HB:=n12_
                clear n0_ n1_ n2_ n3_ n4_ n5_ n6_ n7_ n8_ n9_ n10_ n11_ n12_
                (try clear hb)
                (try clear hb2)
                (try clear hk)
                (try clear hi)
                (try clear ho0)
                obtain ⟨Ao214,co214,eo214⟩:=R_slice HO50.1
                (first | subst eo214 | (injection eo214 with f1_ f2_ f3_;have f4_:=f1_.symm;have f5_:=f3_.symm;clear f1_ f2_ f3_;subst f4_;subst f5_))
                obtain ⟨Ao215,co215,eo215⟩:=R_slice HO53.1
                (first | subst eo215 | (injection eo215 with f1_ f2_ f3_;have f4_:=f1_.symm;have f5_:=f3_.symm;clear f1_ f2_ f3_;subst f4_;subst f5_))
                refine hK.out _ _ ⟨(blk_cell BK1.1 0).trans rfl,(blk_cell BK2.1 0).trans rfl⟩ (fun hHeld=>?_)
                clear hK K
                refine norm_ (a':=?_) ?_ ?_
                rotate_left
                ·show Act.put _ (some 121) _ = _
                 simp only [Act.put,s1_,s2_,s3_,i64_w,i32_w]
                 rfl
                refine two_ (i:=6) (j:=11) (Ni:=some 124) (Nj:=some 21) #[true,true,true,true,true,true,true,false,false,false,false,false,false,false,false] #[true,true,true,true,true,true,false,false,false,false,false,true,false,false,false] rfl rfl rfl rfl (two_of HT_.out (by kernel_rfl)) (by decide) (by decide) (fun K hK=>?_) (fun K hK=>?_)
                ·skip
                 refine goes_ Try.func41 (by kernel_rfl) rfl #[.agg #[.slice Ao214 t48.length co214],.agg #[.slice Ao215 t51.length co215],.int .i64 a2,.int .i64 a3] (by rfl) rfl rfl lm_ ?_
                 with_reducible refine (impl_NewFault.calls _ _ t48 _ _ t51 a2 a3 t54 t57 t58 _ ?side1 ?side2 ?side3 ?side4 A200.1).mono ?_
                 (case side1=>exact cc_ (R_reads' HO50.1).2.2)
                 (case side2=>exact (R_reads' HO50.1).2.1)
                 (case side3=>exact cc_ (R_reads' HO53.1).2.2)
                 (case side4=>exact (R_reads' HO53.1).2.1)
                 rintro e w216 ⟨v55,rfl,ho0,hb⟩
                 refine ⟨_,rfl,?_⟩
                 have n0_:=a0_ (R_elder' (rr_ Z17.out) (R_base ho0) hb)
                 have n1_:=rb_ Z21 hb
                 have n2_:=a0_ (R_elder' (rr_ Z25.out) (R_base ho0) hb)
                 have n3_:=a0_ (R_elder' (rr_ Z31.out) (R_base ho0) hb)
                 have n4_:=rb_ HO50 hb
                 have n5_:=a0_ (R_elder' (rr_ HO53.1) (R_base ho0) hb)
                 have n6_:=a0_ (R_lower (R_new' (R_new' (R_new' (R_new' ho0 (R_lt (rr_ Z17.out))) (R_lt (rr_ Z25.out))) (R_lt (rr_ Z31.out))) (R_lt (rr_ HO53.1))) (below_size hb_))
                 have n7_:=kb_ BK1 hb
                 have n8_:=kb_ BK2 hb
                 have n9_:=kb_ BK16 hb
                 have n10_:=kb_ BK20 hb
                 have n11_:=kb_ BK24 hb
                 have n12_:=kb_ BK30 hb
                 have n13_:=a0_ (below_step hb_ hb)
                 clear Z17
                 clear Z21
                 clear Z25
                 clear Z31
                 clear HO50
                 clear HO53
                 clear BK1
                 clear BK2
                 clear BK16
                 clear BK20
                 clear BK24
                 clear BK30
                 clear HB
                 have Z17:=n0_
                 have Z21:=n1_
                 have Z25:=n2_
                 have Z31:=n3_
                 have HO50:=n4_
                 have HO53:=n5_
                 have HO56:=n6_
                 have BK1:=n7_
                 have BK2:=n8_
                 have BK16:=n9_
                 have BK20:=n10_
                 have BK24:=n11_
                 have BK30:=n12_
                 have HB:=n13_
                 clear n0_ n1_ n2_ n3_ n4_ n5_ n6_ n7_ n8_ n9_ n10_ n11_ n12_ n13_
                 (try clear hb)
                 (try clear hb2)
                 (try clear hk)
                 (try clear hi)
                 (try clear ho0)
                 refine hK.out _ _ ⟨(blk_cell BK1.1 0).trans rfl,(blk_cell BK2.1 0).trans rfl⟩ (fun hHeld=>?_)
                 clear hK K
                 refine norm_ (a':=?_) ?_ ?_
                 rotate_left
                 ·show Act.put _ (some 124) _ = _
                  simp only [Act.put,s1_,s2_,s3_,i64_w,i32_w]
                  rfl
                 refine pure_ (i:=7) (N:=some 117) (v:=?_) (a':=?_) #[true,true,true,true,true,true,true,true,false,false,false,false,false,false,false] rfl rfl (any_of HT_.out (by kernel_rfl)) (fun _ _ _ h=>h) (Or.inl ⟨by rfl,?_⟩) ?_ ?_
                 rotate_left
                 ·intro w'
                  go_simp
                  with_reducible rfl
                 rotate_left
                 ·simp only [Act.put,s1_,s2_,s3_,i64_w,i32_w]
                  rfl
                 refine pure_ (i:=8) (N:=some 125) (v:=?_) (a':=?_) #[true,true,true,true,true,true,true,true,true,false,false,false,false,false,false] rfl rfl (any_of HT_.out (by kernel_rfl)) (fun _ _ _ h=>h) (Or.inl ⟨by rfl,?_⟩) ?_ ?_
                 rotate_left
                 ·intro w'
                  go_simp
                  with_reducible rfl
                 rotate_left
                 ·simp only [Act.put,s1_,s2_,s3_,i64_w,i32_w]
                  rfl
                 refine pure_ (i:=9) (N:=some 126) (v:=?_) (a':=?_) #[true,true,true,true,true,true,true,true,true,true,false,false,false,false,false] rfl rfl (any_of HT_.out (by kernel_rfl)) (fun _ _ _ h=>h) (Or.inl ⟨by rfl,?_⟩) ?_ ?_
                 rotate_left
                 ·intro w'
                  go_simp
                  with_reducible rfl
                 rotate_left
                 ·simp only [Act.put,s1_,s2_,s3_,i64_w,i32_w]
                  rfl
                 refine pure_ (i:=10) (N:=some 127) (v:=?_) (a':=?_) #[true,true,true,true,true,true,true,true,true,true,true,false,false,false,false] rfl rfl (any_of HT_.out (by kernel_rfl)) (fun _ _ _ h=>h) (Or.inl ⟨by rfl,?_⟩) ?_ ?_
                 rotate_left
                 ·intro w'
                  go_simp
                  with_reducible rfl
                 rotate_left
                 ·simp only [Act.put,s1_,s2_,s3_,i64_w,i32_w]
                  rfl
                 refine one_ (i:=11) (N:=some 21) #[true,true,true,true,true,true,true,true,true,true,true,true,false,false,false] rfl rfl (one_of HT_.out (by kernel_rfl)) (by decide) (fun K hK=>?_)
                 refine box_step ?hg (N:=21) ?hd (cs:=#[.slice none 0 0]) (t:=37) ?hr ?_;(case hd=>rfl);(case hg=>rfl);(case hr=>first | (go_simp;done) | (go_simp;rfl))
                 intro gb59 hg w217 hbox hb
                 have n0_:=rb_ Z17 hb
                 have n1_:=rb_ Z21 hb
                 have n2_:=rb_ Z25 hb
                 have n3_:=rb_ Z31 hb
                 have n4_:=rb_ HO50 hb
                 have n5_:=rb_ HO53 hb
                 have n6_:=rb_ HO56 hb
                 have n7_:=kb_ BK1 hb
                 have n8_:=kb_ BK2 hb
                 have n9_:=kb_ BK16 hb
                 have n10_:=kb_ BK20 hb
                 have n11_:=kb_ BK24 hb
                 have n12_:=kb_ BK30 hb
                 have n13_:=a0_ (below_step hb_ hb)
                 have n14_:=a0_ (hbox)
                 have n15_:=a0_ ((by rw [hg];exact (below_size hb_) : w.heap.size ≤ gb59))
                 have n16_:=a0_ ((by rw [hg];exact (below_size hb_) : w.heap.size ≤ gb59))
                 have n17_:=a0_ ((by rw [hg];exact Nat.ne_of_lt (blk_lt (bb_ BK1.1)) : gb1 ≠ gb59))
                 have n18_:=a0_ ((by rw [hg];exact Nat.ne_of_gt (blk_lt (bb_ BK1.1)) : gb59 ≠ gb1))
                 have n19_:=a0_ ((by rw [hg];exact Nat.ne_of_lt (blk_lt (bb_ BK2.1)) : gb2 ≠ gb59))
                 have n20_:=a0_ ((by rw [hg];exact Nat.ne_of_gt (blk_lt (bb_ BK2.1)) : gb59 ≠ gb2))
                 have n21_:=a0_ ((by rw [hg];exact Nat.ne_of_lt (blk_lt (bb_ BK16.1)) : gb16 ≠ gb59))
                 have n22_:=a0_ ((by rw [hg];exact Nat.ne_of_gt (blk_lt (bb_ BK16.1)) : gb59 ≠ gb16))
                 have n23_:=a0_ ((by rw [hg];exact Nat.ne_of_lt (blk_lt (bb_ BK20.1)) : gb20 ≠ gb59))
                 have n24_:=a0_ ((by rw [hg];exact Nat.ne_of_gt (blk_lt (bb_ BK20.1)) : gb59 ≠ gb20))
                 have n25_:=a0_ ((by rw [hg];exact Nat.ne_of_lt (blk_lt (bb_ BK24.1)) : gb24 ≠ gb59))
                 have n26_:=a0_ ((by rw [hg];exact Nat.ne_of_gt (blk_lt (bb_ BK24.1)) : gb59 ≠ gb24))
                 have n27_:=a0_ ((by rw [hg];exact Nat.ne_of_lt (blk_lt (bb_ BK30.1)) : gb30 ≠ gb59))
                 have n28_:=a0_ ((by rw [hg];exact Nat.ne_of_gt (blk_lt (bb_ BK30.1)) : gb59 ≠ gb30))
                 clear Z17
                 clear Z21
                 clear Z25
                 clear Z31
                 clear HO50
                 clear HO53
                 clear HO56
                 clear BK1
                 clear BK2
                 clear BK16
                 clear BK20
                 clear BK24
                 clear BK30
                 clear HB
                 have Z17:=n0_
                 have Z21:=n1_
                 have Z25:=n2_
                 have Z31:=n3_
                 have HO50:=n4_
                 have HO53:=n5_
                 have HO56:=n6_
                 have BK1:=n7_
                 have BK2:=n8_
                 have BK16:=n9_
                 have BK20:=n10_
                 have BK24:=n11_
                 have BK30:=n12_
                 have HB:=n13_
                 have BK59:=n14_
                 have GW59:=n15_
                 have GE59:=n16_
                 have NB1_59:=n17_
                 have NB59_1:=n18_
                 have NB2_59:=n19_
                 have NB59_2:=n20_
                 have NB16_59:=n21_
                 have NB59_16:=n22_
                 have NB20_59:=n23_
                 have NB59_20:=n24_
                 have NB24_59:=n25_
                 have NB59_24:=n26_
                 have NB30_59:=n27_
                 have NB59_30:=n28_
                 clear n0_ n1_ n2_ n3_ n4_ n5_ n6_ n7_ n8_ n9_ n10_ n11_ n12_ n13_ n14_ n15_ n16_ n17_ n18_ n19_ n20_ n21_ n22_ n23_ n24_ n25_ n26_ n27_ n28_
                 clear hb hbox hg
                 refine hK.out _ _ ⟨(blk_cell BK1.1 0).trans rfl,(blk_cell BK2.1 0).trans rfl⟩ (fun hHeld=>?_)
                 clear hK K
                 refine norm_ (a':=?_) ?_ ?_
                 rotate_left
                 ·show Act.put _ (some 21) _ = _
                  simp only [Act.put,s1_,s2_,s3_,i64_w,i32_w]
                  rfl
                 exact norm_ (by simp only [putAll,Act.put,s1_,s2_,s3_]) (hCont (.slice Ao214 t48.length co214,.slice Ao215 t51.length co215,v55,gb59) _ ⟨hHeld,(rm_ HO50.1 (fun _ hk=>hk.2)),(rm_ HO53.1 (fun _ hk=>⟨hk.2,⟨hk.1.1.1.2,⟨hk.1.1.2,hk.1.2⟩⟩⟩)),(rm_ HO56.1 (fun _ hk=>⟨hk.2,⟨hk.1.1.1.2,⟨hk.1.1.2,hk.1.2⟩⟩⟩)),(rm_ Z17.out (fun _ hk=>⟨hk.1.2,⟨hk.2,⟨hk.1.1.1,hk.1.1.2⟩⟩⟩)),(rm_ Z21.out (fun _ hk=>hk.2)),(rm_ Z25.out (fun _ hk=>⟨hk.1.2,⟨hk.2,⟨hk.1.1.1,hk.1.1.2⟩⟩⟩)),(rm_ Z31.out (fun _ hk=>⟨hk.1.2,⟨hk.2,⟨hk.1.1.1,hk.1.1.2⟩⟩⟩)),(bb_ BK1.1),(bb_ BK16.1),(bb_ BK2.1),(bb_ BK20.1),(bb_ BK24.1),(bb_ BK30.1),(bb_ BK59.1),GW59.1,GE59.1,NB1_59.1,NB59_1.1,NB16_59.1,NB59_16.1,NB2_59.1,NB59_2.1,NB20_59.1,NB59_20.1,NB24_59.1,NB59_24.1,NB30_59.1,NB59_30.1,hb_⟩)
                ·skip
                 refine box_step ?hg (N:=21) ?hd (cs:=#[.slice none 0 0]) (t:=37) ?hr ?_;(case hd=>rfl);(case hg=>rfl);(case hr=>first | (go_simp;done) | (go_simp;rfl))
                 intro gb59 hg w214 hbox hb
                 have n0_:=rb_ Z17 hb
                 have n1_:=rb_ Z21 hb
                 have n2_:=rb_ Z25 hb
                 have n3_:=rb_ Z31 hb
                 have n4_:=rb_ HO50 hb
                 have n5_:=rb_ HO53 hb
                 have n6_:=kb_ BK1 hb
                 have n7_:=kb_ BK2 hb
                 have n8_:=kb_ BK16 hb
                 have n9_:=kb_ BK20 hb
                 have n10_:=kb_ BK24 hb
                 have n11_:=kb_ BK30 hb
                 have n12_:=a0_ (below_step hb_ hb)
                 have n13_:=a0_ (hbox)
                 have n14_:=a0_ ((by rw [hg];exact (below_size hb_) : w.heap.size ≤ gb59))
                 have n15_:=a0_ ((by rw [hg];exact (below_size hb_) : w.heap.size ≤ gb59))
                 have n16_:=a0_ ((by rw [hg];exact Nat.ne_of_lt (blk_lt (bb_ BK1.1)) : gb1 ≠ gb59))
                 have n17_:=a0_ ((by rw [hg];exact Nat.ne_of_gt (blk_lt (bb_ BK1.1)) : gb59 ≠ gb1))
                 have n18_:=a0_ ((by rw [hg];exact Nat.ne_of_lt (blk_lt (bb_ BK2.1)) : gb2 ≠ gb59))
                 have n19_:=a0_ ((by rw [hg];exact Nat.ne_of_gt (blk_lt (bb_ BK2.1)) : gb59 ≠ gb2))
                 have n20_:=a0_ ((by rw [hg];exact Nat.ne_of_lt (blk_lt (bb_ BK16.1)) : gb16 ≠ gb59))
                 have n21_:=a0_ ((by rw [hg];exact Nat.ne_of_gt (blk_lt (bb_ BK16.1)) : gb59 ≠ gb16))
                 have n22_:=a0_ ((by rw [hg];exact Nat.ne_of_lt (blk_lt (bb_ BK20.1)) : gb20 ≠ gb59))
                 have n23_:=a0_ ((by rw [hg];exact Nat.ne_of_gt (blk_lt (bb_ BK20.1)) : gb59 ≠ gb20))
                 have n24_:=a0_ ((by rw [hg];exact Nat.ne_of_lt (blk_lt (bb_ BK24.1)) : gb24 ≠ gb59))
                 have n25_:=a0_ ((by rw [hg];exact Nat.ne_of_gt (blk_lt (bb_ BK24.1)) : gb59 ≠ gb24))
                 have n26_:=a0_ ((by rw [hg];exact Nat.ne_of_lt (blk_lt (bb_ BK30.1)) : gb30 ≠ gb59))
                 have n27_:=a0_ ((by rw [hg];exact Nat.ne_of_gt (blk_lt (bb_ BK30.1)) : gb59 ≠ gb30))
                 clear Z17
                 clear Z21
                 clear Z25
                 clear Z31
                 clear HO50
                 clear HO53
                 clear BK1
                 clear BK2
                 clear BK16
                 clear BK20
                 clear BK24
                 clear BK30
                 clear HB
                 have Z17:=n0_
                 have Z21:=n1_
                 have Z25:=n2_
                 have Z31:=n3_
                 have HO50:=n4_
                 have HO53:=n5_
                 have BK1:=n6_
                 have BK2:=n7_
                 have BK16:=n8_
                 have BK20:=n9_
                 have BK24:=n10_
                 have BK30:=n11_
                 have HB:=n12_
                 have BK59:=n13_
                 have GW59:=n14_
                 have GE59:=n15_
                 have NB1_59:=n16_
                 have NB59_1:=n17_
                 have NB2_59:=n18_
                 have NB59_2:=n19_
                 have NB16_59:=n20_
                 have NB59_16:=n21_
                 have NB20_59:=n22_
                 have NB59_20:=n23_
                 have NB24_59:=n24_
                 have NB59_24:=n25_
                 have NB30_59:=n26_
                 have NB59_30:=n27_
                 clear n0_ n1_ n2_ n3_ n4_ n5_ n6_ n7_ n8_ n9_ n10_ n11_ n12_ n13_ n14_ n15_ n16_ n17_ n18_ n19_ n20_ n21_ n22_ n23_ n24_ n25_ n26_ n27_
                 clear hb hbox hg
                 obtain ⟨Ao215,co215,eo215⟩:=R_slice HO50.1
                 (first | subst eo215 | (injection eo215 with f1_ f2_ f3_;have f4_:=f1_.symm;have f5_:=f3_.symm;clear f1_ f2_ f3_;subst f4_;subst f5_))
                 obtain ⟨Ao216,co216,eo216⟩:=R_slice HO53.1
                 (first | subst eo216 | (injection eo216 with f1_ f2_ f3_;have f4_:=f1_.symm;have f5_:=f3_.symm;clear f1_ f2_ f3_;subst f4_;subst f5_))
                 refine hK.out _ _ ⟨(blk_cell BK1.1 0).trans rfl,(blk_cell BK2.1 0).trans rfl⟩ (fun hHeld=>?_)
                 clear hK K
                 refine norm_ (a':=?_) ?_ ?_
                 rotate_left
                 ·show Act.put _ (some 21) _ = _
                  simp only [Act.put,s1_,s2_,s3_,i64_w,i32_w]
                  rfl
                 refine one_ (i:=6) (N:=some 124) #[true,true,true,true,true,true,true,false,false,false,false,true,false,false,false] rfl rfl (one_of HT_.out (by kernel_rfl)) (by decide) (fun K hK=>?_)
                 refine goes_ Try.func41 (by kernel_rfl) rfl #[.agg #[.slice Ao215 t48.length co215],.agg #[.slice Ao216 t51.length co216],.int .i64 a2,.int .i64 a3] (by rfl) rfl rfl lm_ ?_
                 with_reducible refine (impl_NewFault.calls _ _ t48 _ _ t51 a2 a3 t54 t57 t58 _ ?side1 ?side2 ?side3 ?side4 A200.1).mono ?_
                 (case side1=>exact cc_ (R_reads' HO50.1).2.2)
                 (case side2=>exact (R_reads' HO50.1).2.1)
                 (case side3=>exact cc_ (R_reads' HO53.1).2.2)
                 (case side4=>exact (R_reads' HO53.1).2.1)
                 rintro e w217 ⟨v55,rfl,ho0,hb⟩
                 refine ⟨_,rfl,?_⟩
                 have n0_:=a0_ (R_elder' (rr_ Z17.out) (R_base ho0) hb)
                 have n1_:=rb_ Z21 hb
                 have n2_:=a0_ (R_elder' (rr_ Z25.out) (R_base ho0) hb)
                 have n3_:=a0_ (R_elder' (rr_ Z31.out) (R_base ho0) hb)
                 have n4_:=rb_ HO50 hb
                 have n5_:=a0_ (R_elder' (rr_ HO53.1) (R_base ho0) hb)
                 have n6_:=a0_ (R_lower (R_new' (R_new' (R_new' (R_new' ho0 (R_lt (rr_ Z17.out))) (R_lt (rr_ Z25.out))) (R_lt (rr_ Z31.out))) (R_lt (rr_ HO53.1))) (below_size hb_))
                 have n7_:=kb_ BK1 hb
                 have n8_:=kb_ BK2 hb
                 have n9_:=kb_ BK16 hb
                 have n10_:=kb_ BK20 hb
                 have n11_:=kb_ BK24 hb
                 have n12_:=kb_ BK30 hb
                 have n13_:=kb_ BK59 hb
                 have n14_:=a0_ (below_step hb_ hb)
                 clear Z17
                 clear Z21
                 clear Z25
                 clear Z31
                 clear HO50
                 clear HO53
                 clear BK1
                 clear BK2
                 clear BK16
                 clear BK20
                 clear BK24
                 clear BK30
                 clear BK59
                 clear HB
                 have Z17:=n0_
                 have Z21:=n1_
                 have Z25:=n2_
                 have Z31:=n3_
                 have HO50:=n4_
                 have HO53:=n5_
                 have HO56:=n6_
                 have BK1:=n7_
                 have BK2:=n8_
                 have BK16:=n9_
                 have BK20:=n10_
                 have BK24:=n11_
                 have BK30:=n12_
                 have BK59:=n13_
                 have HB:=n14_
                 clear n0_ n1_ n2_ n3_ n4_ n5_ n6_ n7_ n8_ n9_ n10_ n11_ n12_ n13_ n14_
                 (try clear hb)
                 (try clear hb2)
                 (try clear hk)
                 (try clear hi)
                 (try clear ho0)
                 refine hK.out _ _ ⟨(blk_cell BK1.1 0).trans rfl,(blk_cell BK2.1 0).trans rfl⟩ (fun hHeld=>?_)
                 clear hK K
                 refine norm_ (a':=?_) ?_ ?_
                 rotate_left
                 ·show Act.put _ (some 124) _ = _
                  simp only [Act.put,s1_,s2_,s3_,i64_w,i32_w]
                  rfl
                 refine pure_ (i:=7) (N:=some 117) (v:=?_) (a':=?_) #[true,true,true,true,true,true,true,true,false,false,false,true,false,false,false] rfl rfl (any_of HT_.out (by kernel_rfl)) (fun _ _ _ h=>h) (Or.inl ⟨by rfl,?_⟩) ?_ ?_
                 rotate_left
                 ·intro w'
                  go_simp
                  with_reducible rfl
                 rotate_left
                 ·simp only [Act.put,s1_,s2_,s3_,i64_w,i32_w]
                  rfl
                 refine pure_ (i:=8) (N:=some 125) (v:=?_) (a':=?_) #[true,true,true,true,true,true,true,true,true,false,false,true,false,false,false] rfl rfl (any_of HT_.out (by kernel_rfl)) (fun _ _ _ h=>h) (Or.inl ⟨by rfl,?_⟩) ?_ ?_
                 rotate_left
                 ·intro w'
                  go_simp
                  with_reducible rfl
                 rotate_left
                 ·simp only [Act.put,s1_,s2_,s3_,i64_w,i32_w]
                  rfl
                 refine pure_ (i:=9) (N:=some 126) (v:=?_) (a':=?_) #[true,true,true,true,true,true,true,true,true,true,false,true,false,false,false] rfl rfl (any_of HT_.out (by kernel_rfl)) (fun _ _ _ h=>h) (Or.inl ⟨by rfl,?_⟩) ?_ ?_
                 rotate_left
                 ·intro w'
                  go_simp
                  with_reducible rfl
                 rotate_left
                 ·simp only [Act.put,s1_,s2_,s3_,i64_w,i32_w]
                  rfl
                 refine pure_ (i:=10) (N:=some 127) (v:=?_) (a':=?_) #[true,true,true,true,true,true,true,true,true,true,true,true,false,false,false] rfl rfl (any_of HT_.out (by kernel_rfl)) (fun _ _ _ h=>h) (Or.inl ⟨by rfl,?_⟩) ?_ ?_
                 rotate_left
                 ·intro w'
                  go_simp
                  with_reducible rfl
                 rotate_left
                 ·simp only [Act.put,s1_,s2_,s3_,i64_w,i32_w]
                  rfl
                 exact norm_ (by simp only [putAll,Act.put,s1_,s2_,s3_]) (hCont (.slice Ao215 t48.length co215,.slice Ao216 t51.length co216,v55,gb59) _ ⟨hHeld,(rm_ HO50.1 (fun _ hk=>hk.2)),(rm_ HO53.1 (fun _ hk=>⟨hk.2,⟨hk.1.1.1.2,⟨hk.1.1.2,hk.1.2⟩⟩⟩)),(rm_ HO56.1 (fun _ hk=>⟨hk.2,⟨hk.1.1.1.2,⟨hk.1.1.2,hk.1.2⟩⟩⟩)),(rm_ Z17.out (fun _ hk=>⟨hk.1.2,⟨hk.2,⟨hk.1.1.1,hk.1.1.2⟩⟩⟩)),(rm_ Z21.out (fun _ hk=>hk.2)),(rm_ Z25.out (fun _ hk=>⟨hk.1.2,⟨hk.2,⟨hk.1.1.1,hk.1.1.2⟩⟩⟩)),(rm_ Z31.out (fun _ hk=>⟨hk.1.2,⟨hk.2,⟨hk.1.1.1,hk.1.1.2⟩⟩⟩)),(bb_ BK1.1),(bb_ BK16.1),(bb_ BK2.1),(bb_ BK20.1),(bb_ BK24.1),(bb_ BK30.1),(bb_ BK59.1),GW59.1,GE59.1,NB1_59.1,NB59_1.1,NB16_59.1,NB59_16.1,NB2_59.1,NB59_2.1,NB20_59.1,NB59_20.1,NB24_59.1,NB59_24.1,NB30_59.1,NB59_30.1,hb_⟩)
               ·skip
                refine box_step ?hg (N:=21) ?hd (cs:=#[.slice none 0 0]) (t:=37) ?hr ?_;(case hd=>rfl);(case hg=>rfl);(case hr=>first | (go_simp;done) | (go_simp;rfl))
                intro gb59 hg w213 hbox hb
                have n0_:=rb_ Z17 hb
                have n1_:=rb_ Z21 hb
                have n2_:=rb_ Z25 hb
                have n3_:=rb_ Z31 hb
                have n4_:=rb_ HO50 hb
                have n5_:=kb_ BK1 hb
                have n6_:=kb_ BK2 hb
                have n7_:=kb_ BK16 hb
                have n8_:=kb_ BK20 hb
                have n9_:=kb_ BK24 hb
                have n10_:=kb_ BK30 hb
                have n11_:=a0_ (below_step hb_ hb)
                have n12_:=a0_ (hbox)
                have n13_:=a0_ ((by rw [hg];exact (below_size hb_) : w.heap.size ≤ gb59))
                have n14_:=a0_ ((by rw [hg];exact (below_size hb_) : w.heap.size ≤ gb59))
                have n15_:=a0_ ((by rw [hg];exact Nat.ne_of_lt (blk_lt (bb_ BK1.1)) : gb1 ≠ gb59))
                have n16_:=a0_ ((by rw [hg];exact Nat.ne_of_gt (blk_lt (bb_ BK1.1)) : gb59 ≠ gb1))
                have n17_:=a0_ ((by rw [hg];exact Nat.ne_of_lt (blk_lt (bb_ BK2.1)) : gb2 ≠ gb59))
                have n18_:=a0_ ((by rw [hg];exact Nat.ne_of_gt (blk_lt (bb_ BK2.1)) : gb59 ≠ gb2))
                have n19_:=a0_ ((by rw [hg];exact Nat.ne_of_lt (blk_lt (bb_ BK16.1)) : gb16 ≠ gb59))
                have n20_:=a0_ ((by rw [hg];exact Nat.ne_of_gt (blk_lt (bb_ BK16.1)) : gb59 ≠ gb16))
                have n21_:=a0_ ((by rw [hg];exact Nat.ne_of_lt (blk_lt (bb_ BK20.1)) : gb20 ≠ gb59))
                have n22_:=a0_ ((by rw [hg];exact Nat.ne_of_gt (blk_lt (bb_ BK20.1)) : gb59 ≠ gb20))
                have n23_:=a0_ ((by rw [hg];exact Nat.ne_of_lt (blk_lt (bb_ BK24.1)) : gb24 ≠ gb59))
                have n24_:=a0_ ((by rw [hg];exact Nat.ne_of_gt (blk_lt (bb_ BK24.1)) : gb59 ≠ gb24))
                have n25_:=a0_ ((by rw [hg];exact Nat.ne_of_lt (blk_lt (bb_ BK30.1)) : gb30 ≠ gb59))
                have n26_:=a0_ ((by rw [hg];exact Nat.ne_of_gt (blk_lt (bb_ BK30.1)) : gb59 ≠ gb30))
                clear Z17
                clear Z21
                clear Z25
                clear Z31
                clear HO50
                clear BK1
                clear BK2
                clear BK16
                clear BK20
                clear BK24
                clear BK30
                clear HB
                have Z17:=n0_
                have Z21:=n1_
                have Z25:=n2_
                have Z31:=n3_
                have HO50:=n4_
                have BK1:=n5_
                have BK2:=n6_
                have BK16:=n7_
                have BK20:=n8_
                have BK24:=n9_
                have BK30:=n10_
                have HB:=n11_
                have BK59:=n12_
                have GW59:=n13_
                have GE59:=n14_
                have NB1_59:=n15_
                have NB59_1:=n16_
                have NB2_59:=n17_
                have NB59_2:=n18_
                have NB16_59:=n19_
                have NB59_16:=n20_
                have NB20_59:=n21_
                have NB59_20:=n22_
                have NB24_59:=n23_
                have NB59_24:=n24_
                have NB30_59:=n25_
                have NB59_30:=n26_
                clear n0_ n1_ n2_ n3_ n4_ n5_ n6_ n7_ n8_ n9_ n10_ n11_ n12_ n13_ n14_ n15_ n16_ n17_ n18_ n19_ n20_ n21_ n22_ n23_ n24_ n25_ n26_
                clear hb hbox hg
                refine hK.out _ _ ⟨(blk_cell BK1.1 0).trans rfl,(blk_cell BK2.1 0).trans rfl⟩ (fun hHeld=>?_)
                clear hK K
                refine norm_ (a':=?_) ?_ ?_
                rotate_left
                ·show Act.put _ (some 21) _ = _
                 simp only [Act.put,s1_,s2_,s3_,i64_w,i32_w]
                 rfl
                refine one_ (i:=3) (N:=some 121) #[true,true,true,true,true,true,false,false,false,false,false,true,false,false,false] rfl rfl (one_of HT_.out (by kernel_rfl)) (by decide) (fun K hK=>?_)
                refine goes_ Try.func18 (by kernel_rfl) rfl #[.agg #[.slice A1_0 l1_0.length c1_0]] (by rfl) rfl rfl lm_ ?_
                with_reducible refine (laws_toHeap.calls kj121 _ _ l1_0 t51 _ ?side1 ?side2 A199.1).mono ?_
                (case side1=>exact cc_ (C_below HR1_0.1 HB.1))
                (case side2=>exact HC1_0.1)
                rintro e w214 ⟨v52,rfl,ho0,hb⟩
                refine ⟨_,rfl,?_⟩
                have n0_:=a0_ (R_elder' (rr_ Z17.out) (R_base ho0) hb)
                have n1_:=rb_ Z21 hb
                have n2_:=a0_ (R_elder' (rr_ Z25.out) (R_base ho0) hb)
                have n3_:=a0_ (R_elder' (rr_ Z31.out) (R_base ho0) hb)
                have n4_:=rb_ HO50 hb
                have n5_:=a0_ (R_lower (R_new' (R_new' (R_new' ho0 (R_lt (rr_ Z17.out))) (R_lt (rr_ Z25.out))) (R_lt (rr_ Z31.out))) (below_size hb_))
                have n6_:=kb_ BK1 hb
                have n7_:=kb_ BK2 hb
                have n8_:=kb_ BK16 hb
                have n9_:=kb_ BK20 hb
                have n10_:=kb_ BK24 hb
                have n11_:=kb_ BK30 hb
                have n12_:=kb_ BK59 hb
                have n13_:=a0_ (below_step hb_ hb)
                clear Z17
                clear Z21
                clear Z25
                clear Z31
                clear HO50
                clear BK1
                clear BK2
                clear BK16
                clear BK20
                clear BK24
                clear BK30
                clear BK59
                clear HB
                have Z17:=n0_
                have Z21:=n1_
                have Z25:=n2_
                have Z31:=n3_
                have HO50:=n4_
                have HO53:=n5_
                have BK1:=n6_
                have BK2:=n7_
                have BK16:=n8_
                have BK20:=n9_
                have BK24:=n10_
                have BK30:=n11_
                have BK59:=n12_
                have HB:=n13_
                clear n0_ n1_ n2_ n3_ n4_ n5_ n6_ n7_ n8_ n9_ n10_ n11_ n12_ n13_
                (try clear hb)
                (try clear hb2)
                (try clear hk)
                (try clear hi)
                (try clear ho0)
                obtain ⟨Ao215,co215,eo215⟩:=R_slice HO50.1
                (first | subst eo215 | (injection eo215 with f1_ f2_ f3_;have f4_:=f1_.symm;have f5_:=f3_.symm;clear f1_ f2_ f3_;subst f4_;subst f5_))
                obtain ⟨Ao216,co216,eo216⟩:=R_slice HO53.1
                (first | subst eo216 | (injection eo216 with f1_ f2_ f3_;have f4_:=f1_.symm;have f5_:=f3_.symm;clear f1_ f2_ f3_;subst f4_;subst f5_))
                refine hK.out _ _ ⟨(blk_cell BK1.1 0).trans rfl,(blk_cell BK2.1 0).trans rfl⟩ (fun hHeld=>?_)
                clear hK K
                refine norm_ (a':=?_) ?_ ?_
                rotate_left
                ·show Act.put _ (some 121) _ = _
                 simp only [Act.put,s1_,s2_,s3_,i64_w,i32_w]
                 rfl
                refine one_ (i:=6) (N:=some 124) #[true,true,true,true,true,true,true,false,false,false,false,true,false,false,false] rfl rfl (one_of HT_.out (by kernel_rfl)) (by decide) (fun K hK=>?_)
                refine goes_ Try.func41 (by kernel_rfl) rfl #[.agg #[.slice Ao215 t48.length co215],.agg #[.slice Ao216 t51.length co216],.int .i64 a2,.int .i64 a3] (by rfl) rfl rfl lm_ ?_
                with_reducible refine (impl_NewFault.calls _ _ t48 _ _ t51 a2 a3 t54 t57 t58 _ ?side1 ?side2 ?side3 ?side4 A200.1).mono ?_
                (case side1=>exact cc_ (R_reads' HO50.1).2.2)
                (case side2=>exact (R_reads' HO50.1).2.1)
                (case side3=>exact cc_ (R_reads' HO53.1).2.2)
                (case side4=>exact (R_reads' HO53.1).2.1)
                rintro e w217 ⟨v55,rfl,ho0,hb⟩
                refine ⟨_,rfl,?_⟩
                have n0_:=a0_ (R_elder' (rr_ Z17.out) (R_base ho0) hb)
                have n1_:=rb_ Z21 hb
                have n2_:=a0_ (R_elder' (rr_ Z25.out) (R_base ho0) hb)
                have n3_:=a0_ (R_elder' (rr_ Z31.out) (R_base ho0) hb)
                have n4_:=rb_ HO50 hb
                have n5_:=a0_ (R_elder' (rr_ HO53.1) (R_base ho0) hb)
                have n6_:=a0_ (R_lower (R_new' (R_new' (R_new' (R_new' ho0 (R_lt (rr_ Z17.out))) (R_lt (rr_ Z25.out))) (R_lt (rr_ Z31.out))) (R_lt (rr_ HO53.1))) (below_size hb_))
                have n7_:=kb_ BK1 hb
                have n8_:=kb_ BK2 hb
                have n9_:=kb_ BK16 hb
                have n10_:=kb_ BK20 hb
                have n11_:=kb_ BK24 hb
                have n12_:=kb_ BK30 hb
                have n13_:=kb_ BK59 hb
                have n14_:=a0_ (below_step hb_ hb)
                clear Z17
                clear Z21
                clear Z25
                clear Z31
                clear HO50
                clear HO53
                clear BK1
                clear BK2
                clear BK16
                clear BK20
                clear BK24
                clear BK30
                clear BK59
                clear HB
                have Z17:=n0_
                have Z21:=n1_
                have Z25:=n2_
                have Z31:=n3_
                have HO50:=n4_
                have HO53:=n5_
                have HO56:=n6_
                have BK1:=n7_
                have BK2:=n8_
                have BK16:=n9_
                have BK20:=n10_
                have BK24:=n11_
                have BK30:=n12_
                have BK59:=n13_
                have HB:=n14_
                clear n0_ n1_ n2_ n3_ n4_ n5_ n6_ n7_ n8_ n9_ n10_ n11_ n12_ n13_ n14_
                (try clear hb)
                (try clear hb2)
                (try clear hk)
                (try clear hi)
                (try clear ho0)
                refine hK.out _ _ ⟨(blk_cell BK1.1 0).trans rfl,(blk_cell BK2.1 0).trans rfl⟩ (fun hHeld=>?_)
                clear hK K
                refine norm_ (a':=?_) ?_ ?_
                rotate_left
                ·show Act.put _ (some 124) _ = _
                 simp only [Act.put,s1_,s2_,s3_,i64_w,i32_w]
                 rfl
                refine pure_ (i:=7) (N:=some 117) (v:=?_) (a':=?_) #[true,true,true,true,true,true,true,true,false,false,false,true,false,false,false] rfl rfl (any_of HT_.out (by kernel_rfl)) (fun _ _ _ h=>h) (Or.inl ⟨by rfl,?_⟩) ?_ ?_
                rotate_left
                ·intro w'
                 go_simp
                 with_reducible rfl
                rotate_left
                ·simp only [Act.put,s1_,s2_,s3_,i64_w,i32_w]
                 rfl
                refine pure_ (i:=8) (N:=some 125) (v:=?_) (a':=?_) #[true,true,true,true,true,true,true,true,true,false,false,true,false,false,false] rfl rfl (any_of HT_.out (by kernel_rfl)) (fun _ _ _ h=>h) (Or.inl ⟨by rfl,?_⟩) ?_ ?_
                rotate_left
                ·intro w'
                 go_simp
                 with_reducible rfl
                rotate_left
                ·simp only [Act.put,s1_,s2_,s3_,i64_w,i32_w]
                 rfl
                refine pure_ (i:=9) (N:=some 126) (v:=?_) (a':=?_) #[true,true,true,true,true,true,true,true,true,true,false,true,false,false,false] rfl rfl (any_of HT_.out (by kernel_rfl)) (fun _ _ _ h=>h) (Or.inl ⟨by rfl,?_⟩) ?_ ?_
                rotate_left
                ·intro w'
                 go_simp
                 with_reducible rfl
                rotate_left
                ·simp only [Act.put,s1_,s2_,s3_,i64_w,i32_w]
                 rfl
                refine pure_ (i:=10) (N:=some 127) (v:=?_) (a':=?_) #[true,true,true,true,true,true,true,true,true,true,true,true,false,false,false] rfl rfl (any_of HT_.out (by kernel_rfl)) (fun _ _ _ h=>h) (Or.inl ⟨by rfl,?_⟩) ?_ ?_
                rotate_left
                ·intro w'
                 go_simp
                 with_reducible rfl
                rotate_left
                ·simp only [Act.put,s1_,s2_,s3_,i64_w,i32_w]
                 rfl
                exact norm_ (by simp only [putAll,Act.put,s1_,s2_,s3_]) (hCont (.slice Ao215 t48.length co215,.slice Ao216 t51.length co216,v55,gb59) _ ⟨hHeld,(rm_ HO50.1 (fun _ hk=>hk.2)),(rm_ HO53.1 (fun _ hk=>⟨hk.2,⟨hk.1.1.1.2,⟨hk.1.1.2,hk.1.2⟩⟩⟩)),(rm_ HO56.1 (fun _ hk=>⟨hk.2,⟨hk.1.1.1.2,⟨hk.1.1.2,hk.1.2⟩⟩⟩)),(rm_ Z17.out (fun _ hk=>⟨hk.1.2,⟨hk.2,⟨hk.1.1.1,hk.1.1.2⟩⟩⟩)),(rm_ Z21.out (fun _ hk=>hk.2)),(rm_ Z25.out (fun _ hk=>⟨hk.1.2,⟨hk.2,⟨hk.1.1.1,hk.1.1.2⟩⟩⟩)),(rm_ Z31.out (fun _ hk=>⟨hk.1.2,⟨hk.2,⟨hk.1.1.1,hk.1.1.2⟩⟩⟩)),(bb_ BK1.1),(bb_ BK16.1),(bb_ BK2.1),(bb_ BK20.1),(bb_ BK24.1),(bb_ BK30.1),(bb_ BK59.1),GW59.1,GE59.1,NB1_59.1,NB59_1.1,NB16_59.1,NB59_16.1,NB2_59.1,NB59_2.1,NB20_59.1,NB59_20.1,NB24_59.1,NB59_24.1,NB30_59.1,NB59_30.1,hb_⟩)
              ·skip
               refine box_step ?hg (N:=21) ?hd (cs:=#[.slice none 0 0]) (t:=37) ?hr ?_;(case hd=>rfl);(case hg=>rfl);(case hr=>first | (go_simp;done) | (go_simp;rfl))
               intro gb59 hg w212 hbox hb
               have n0_:=rb_ Z17 hb
               have n1_:=rb_ Z21 hb
               have n2_:=rb_ Z25 hb
               have n3_:=rb_ Z31 hb
               have n4_:=kb_ BK1 hb
               have n5_:=kb_ BK2 hb
               have n6_:=kb_ BK16 hb
               have n7_:=kb_ BK20 hb
               have n8_:=kb_ BK24 hb
               have n9_:=kb_ BK30 hb
               have n10_:=a0_ (below_step hb_ hb)
               have n11_:=a0_ (hbox)
               have n12_:=a0_ ((by rw [hg];exact (below_size hb_) : w.heap.size ≤ gb59))
               have n13_:=a0_ ((by rw [hg];exact (below_size hb_) : w.heap.size ≤ gb59))
               have n14_:=a0_ ((by rw [hg];exact Nat.ne_of_lt (blk_lt (bb_ BK1.1)) : gb1 ≠ gb59))
               have n15_:=a0_ ((by rw [hg];exact Nat.ne_of_gt (blk_lt (bb_ BK1.1)) : gb59 ≠ gb1))
               have n16_:=a0_ ((by rw [hg];exact Nat.ne_of_lt (blk_lt (bb_ BK2.1)) : gb2 ≠ gb59))
               have n17_:=a0_ ((by rw [hg];exact Nat.ne_of_gt (blk_lt (bb_ BK2.1)) : gb59 ≠ gb2))
               have n18_:=a0_ ((by rw [hg];exact Nat.ne_of_lt (blk_lt (bb_ BK16.1)) : gb16 ≠ gb59))
               have n19_:=a0_ ((by rw [hg];exact Nat.ne_of_gt (blk_lt (bb_ BK16.1)) : gb59 ≠ gb16))
               have n20_:=a0_ ((by rw [hg];exact Nat.ne_of_lt (blk_lt (bb_ BK20.1)) : gb20 ≠ gb59))
               have n21_:=a0_ ((by rw [hg];exact Nat.ne_of_gt (blk_lt (bb_ BK20.1)) : gb59 ≠ gb20))
               have n22_:=a0_ ((by rw [hg];exact Nat.ne_of_lt (blk_lt (bb_ BK24.1)) : gb24 ≠ gb59))
               have n23_:=a0_ ((by rw [hg];exact Nat.ne_of_gt (blk_lt (bb_ BK24.1)) : gb59 ≠ gb24))
               have n24_:=a0_ ((by rw [hg];exact Nat.ne_of_lt (blk_lt (bb_ BK30.1)) : gb30 ≠ gb59))
               have n25_:=a0_ ((by rw [hg];exact Nat.ne_of_gt (blk_lt (bb_ BK30.1)) : gb59 ≠ gb30))
               clear Z17
               clear Z21
               clear Z25
               clear Z31
               clear BK1
               clear BK2
               clear BK16
               clear BK20
               clear BK24
               clear BK30
               clear HB
               have Z17:=n0_
               have Z21:=n1_
               have Z25:=n2_
               have Z31:=n3_
               have BK1:=n4_
               have BK2:=n5_
               have BK16:=n6_
               have BK20:=n7_
               have BK24:=n8_
               have BK30:=n9_
               have HB:=n10_
               have BK59:=n11_
               have GW59:=n12_
               have GE59:=n13_
               have NB1_59:=n14_
               have NB59_1:=n15_
               have NB2_59:=n16_
               have NB59_2:=n17_
               have NB16_59:=n18_
               have NB59_16:=n19_
               have NB20_59:=n20_
               have NB59_20:=n21_
               have NB24_59:=n22_
               have NB59_24:=n23_
               have NB30_59:=n24_
               have NB59_30:=n25_
               clear n0_ n1_ n2_ n3_ n4_ n5_ n6_ n7_ n8_ n9_ n10_ n11_ n12_ n13_ n14_ n15_ n16_ n17_ n18_ n19_ n20_ n21_ n22_ n23_ n24_ n25_
               clear hb hbox hg
               refine hK.out _ _ ⟨(blk_cell BK1.1 0).trans rfl,(blk_cell BK2.1 0).trans rfl⟩ (fun hHeld=>?_)
               clear hK K
               refine norm_ (a':=?_) ?_ ?_
               rotate_left
               ·show Act.put _ (some 21) _ = _
                simp only [Act.put,s1_,s2_,s3_,i64_w,i32_w]
                rfl
               refine one_ (i:=1) (N:=some 119) #[true,true,true,false,true,true,false,false,false,false,false,true,false,false,false] rfl rfl (one_of HT_.out (by kernel_rfl)) (by decide) (fun K hK=>?_)
               refine goes_ Try.func17 (by kernel_rfl) rfl #[.agg #[.slice A0_0 l0_0.length c0_0]] (by rfl) rfl rfl lm_ ?_
               with_reducible refine (laws_toTree.calls kj121 _ _ l0_0 t48 _ ?side1 ?side2 A198.1).mono ?_
               (case side1=>exact cc_ (C_below HR0_0.1 HB.1))
               (case side2=>exact HC0_0.1)
               rintro e w213 ⟨v49,rfl,ho0,hb⟩
               refine ⟨_,rfl,?_⟩
               have n0_:=rb_ Z17 hb
               have n1_:=a0_ (R_elder' (rr_ Z21.out) (R_base ho0) hb)
               have n2_:=rb_ Z25 hb
               have n3_:=rb_ Z31 hb
               have n4_:=a0_ (R_lower (R_new' ho0 (R_lt (rr_ Z21.out))) (below_size hb_))
               have n5_:=kb_ BK1 hb
               have n6_:=kb_ BK2 hb
               have n7_:=kb_ BK16 hb
               have n8_:=kb_ BK20 hb
               have n9_:=kb_ BK24 hb
               have n10_:=kb_ BK30 hb
               have n11_:=kb_ BK59 hb
               have n12_:=a0_ (below_step hb_ hb)
               clear Z17
               clear Z21
               clear Z25
               clear Z31
               clear BK1
               clear BK2
               clear BK16
               clear BK20
               clear BK24
               clear BK30
               clear BK59
               clear HB
               have Z17:=n0_
               have Z21:=n1_
               have Z25:=n2_
               have Z31:=n3_
               have HO50:=n4_
               have BK1:=n5_
               have BK2:=n6_
               have BK16:=n7_
               have BK20:=n8_
               have BK24:=n9_
               have BK30:=n10_
               have BK59:=n11_
               have HB:=n12_
               clear n0_ n1_ n2_ n3_ n4_ n5_ n6_ n7_ n8_ n9_ n10_ n11_ n12_
               (try clear hb)
               (try clear hb2)
               (try clear hk)
               (try clear hi)
               (try clear ho0)
               refine hK.out _ _ ⟨(blk_cell BK1.1 0).trans rfl,(blk_cell BK2.1 0).trans rfl⟩ (fun hHeld=>?_)
               clear hK K
               refine norm_ (a':=?_) ?_ ?_
               rotate_left
               ·show Act.put _ (some 119) _ = _
                simp only [Act.put,s1_,s2_,s3_,i64_w,i32_w]
                rfl
               refine one_ (i:=3) (N:=some 121) #[true,true,true,true,true,true,false,false,false,false,false,true,false,false,false] rfl rfl (one_of HT_.out (by kernel_rfl)) (by decide) (fun K hK=>?_)
               refine goes_ Try.func18 (by kernel_rfl) rfl #[.agg #[.slice A1_0 l1_0.length c1_0]] (by rfl) rfl rfl lm_ ?_
               with_reducible refine (laws_toHeap.calls kj121 _ _ l1_0 t51 _ ?side1 ?side2 A199.1).mono ?_
               (case side1=>exact cc_ (C_below HR1_0.1 HB.1))
               (case side2=>exact HC1_0.1)
               rintro e w214 ⟨v52,rfl,ho0,hb⟩
               refine ⟨_,rfl,?_⟩
               have n0_:=a0_ (R_elder' (rr_ Z17.out) (R_base ho0) hb)
               have n1_:=rb_ Z21 hb
               have n2_:=a0_ (R_elder' (rr_ Z25.out) (R_base ho0) hb)
               have n3_:=a0_ (R_elder' (rr_ Z31.out) (R_base ho0) hb)
               have n4_:=rb_ HO50 hb
               have n5_:=a0_ (R_lower (R_new' (R_new' (R_new' ho0 (R_lt (rr_ Z17.out))) (R_lt (rr_ Z25.out))) (R_lt (rr_ Z31.out))) (below_size hb_))
               have n6_:=kb_ BK1 hb
               have n7_:=kb_ BK2 hb
               have n8_:=kb_ BK16 hb
               have n9_:=kb_ BK20 hb
               have n10_:=kb_ BK24 hb
               have n11_:=kb_ BK30 hb
               have n12_:=kb_ BK59 hb
               have n13_:=a0_ (below_step hb_ hb)
               clear Z17
               clear Z21
               clear Z25
               clear Z31
               clear HO50
               clear BK1
               clear BK2
               clear BK16
               clear BK20
               clear BK24
               clear BK30
               clear BK59
               clear HB
               have Z17:=n0_
               have Z21:=n1_
               have Z25:=n2_
               have Z31:=n3_
               have HO50:=n4_
               have HO53:=n5_
               have BK1:=n6_
               have BK2:=n7_
               have BK16:=n8_
               have BK20:=n9_
               have BK24:=n10_
               have BK30:=n11_
               have BK59:=n12_
               have HB:=n13_
               clear n0_ n1_ n2_ n3_ n4_ n5_ n6_ n7_ n8_ n9_ n10_ n11_ n12_ n13_
               (try clear hb)
               (try clear hb2)
               (try clear hk)
               (try clear hi)
               (try clear ho0)
               obtain ⟨Ao215,co215,eo215⟩:=R_slice HO50.1
               (first | subst eo215 | (injection eo215 with f1_ f2_ f3_;have f4_:=f1_.symm;have f5_:=f3_.symm;clear f1_ f2_ f3_;subst f4_;subst f5_))
               obtain ⟨Ao216,co216,eo216⟩:=R_slice HO53.1
               (first | subst eo216 | (injection eo216 with f1_ f2_ f3_;have f4_:=f1_.symm;have f5_:=f3_.symm;clear f1_ f2_ f3_;subst f4_;subst f5_))
               refine hK.out _ _ ⟨(blk_cell BK1.1 0).trans rfl,(blk_cell BK2.1 0).trans rfl⟩ (fun hHeld=>?_)
               clear hK K
               refine norm_ (a':=?_) ?_ ?_
               rotate_left
               ·show Act.put _ (some 121) _ = _
                simp only [Act.put,s1_,s2_,s3_,i64_w,i32_w]
                rfl
               refine one_ (i:=6) (N:=some 124) #[true,true,true,true,true,true,true,false,false,false,false,true,false,false,false] rfl rfl (one_of HT_.out (by kernel_rfl)) (by decide) (fun K hK=>?_)
               refine goes_ Try.func41 (by kernel_rfl) rfl #[.agg #[.slice Ao215 t48.length co215],.agg #[.slice Ao216 t51.length co216],.int .i64 a2,.int .i64 a3] (by rfl) rfl rfl lm_ ?_
               with_reducible refine (impl_NewFault.calls _ _ t48 _ _ t51 a2 a3 t54 t57 t58 _ ?side1 ?side2 ?side3 ?side4 A200.1).mono ?_
               (case side1=>exact cc_ (R_reads' HO50.1).2.2)
               (case side2=>exact (R_reads' HO50.1).2.1)
               (case side3=>exact cc_ (R_reads' HO53.1).2.2)
               (case side4=>exact (R_reads' HO53.1).2.1)
               rintro e w217 ⟨v55,rfl,ho0,hb⟩
               refine ⟨_,rfl,?_⟩
               have n0_:=a0_ (R_elder' (rr_ Z17.out) (R_base ho0) hb)
               have n1_:=rb_ Z21 hb
               have n2_:=a0_ (R_elder' (rr_ Z25.out) (R_base ho0) hb)
               have n3_:=a0_ (R_elder' (rr_ Z31.out) (R_base ho0) hb)
               have n4_:=rb_ HO50 hb
               have n5_:=a0_ (R_elder' (rr_ HO53.1) (R_base ho0) hb)
               have n6_:=a0_ (R_lower (R_new' (R_new' (R_new' (R_new' ho0 (R_lt (rr_ Z17.out))) (R_lt (rr_ Z25.out))) (R_lt (rr_ Z31.out))) (R_lt (rr_ HO53.1))) (below_size hb_))
               have n7_:=kb_ BK1 hb
               have n8_:=kb_ BK2 hb
               have n9_:=kb_ BK16 hb
               have n10_:=kb_ BK20 hb
               have n11_:=kb_ BK24 hb
               have n12_:=kb_ BK30 hb
               have n13_:=kb_ BK59 hb
               have n14_:=a0_ (below_step hb_ hb)
               clear Z17
               clear Z21
               clear Z25
               clear Z31
               clear HO50
               clear HO53
               clear BK1
               clear BK2
               clear BK16
               clear BK20
               clear BK24
               clear BK30
               clear BK59
               clear HB
               have Z17:=n0_
               have Z21:=n1_
               have Z25:=n2_
               have Z31:=n3_
               have HO50:=n4_
               have HO53:=n5_
               have HO56:=n6_
               have BK1:=n7_
               have BK2:=n8_
               have BK16:=n9_
               have BK20:=n10_
               have BK24:=n11_
               have BK30:=n12_
               have BK59:=n13_
               have HB:=n14_
               clear n0_ n1_ n2_ n3_ n4_ n5_ n6_ n7_ n8_ n9_ n10_ n11_ n12_ n13_ n14_
               (try clear hb)
               (try clear hb2)
               (try clear hk)
               (try clear hi)
               (try clear ho0)
               refine hK.out _ _ ⟨(blk_cell BK1.1 0).trans rfl,(blk_cell BK2.1 0).trans rfl⟩ (fun hHeld=>?_)
               clear hK K
               refine norm_ (a':=?_) ?_ ?_
               rotate_left
               ·show Act.put _ (some 124) _ = _
                simp only [Act.put,s1_,s2_,s3_,i64_w,i32_w]
                rfl
               refine pure_ (i:=7) (N:=some 117) (v:=?_) (a':=?_) #[true,true,true,true,true,true,true,true,false,false,false,true,false,false,false] rfl rfl (any_of HT_.out (by kernel_rfl)) (fun _ _ _ h=>h) (Or.inl ⟨by rfl,?_⟩) ?_ ?_
               rotate_left
               ·intro w'
                go_simp
                with_reducible rfl
               rotate_left
               ·simp only [Act.put,s1_,s2_,s3_,i64_w,i32_w]
                rfl
               refine pure_ (i:=8) (N:=some 125) (v:=?_) (a':=?_) #[true,true,true,true,true,true,true,true,true,false,false,true,false,false,false] rfl rfl (any_of HT_.out (by kernel_rfl)) (fun _ _ _ h=>h) (Or.inl ⟨by rfl,?_⟩) ?_ ?_
               rotate_left
               ·intro w'
                go_simp
                with_reducible rfl
               rotate_left
               ·simp only [Act.put,s1_,s2_,s3_,i64_w,i32_w]
                rfl
               refine pure_ (i:=9) (N:=some 126) (v:=?_) (a':=?_) #[true,true,true,true,true,true,true,true,true,true,false,true,false,false,false] rfl rfl (any_of HT_.out (by kernel_rfl)) (fun _ _ _ h=>h) (Or.inl ⟨by rfl,?_⟩) ?_ ?_
               rotate_left
               ·intro w'
                go_simp
                with_reducible rfl
               rotate_left
               ·simp only [Act.put,s1_,s2_,s3_,i64_w,i32_w]
                rfl
               refine pure_ (i:=10) (N:=some 127) (v:=?_) (a':=?_) #[true,true,true,true,true,true,true,true,true,true,true,true,false,false,false] rfl rfl (any_of HT_.out (by kernel_rfl)) (fun _ _ _ h=>h) (Or.inl ⟨by rfl,?_⟩) ?_ ?_
               rotate_left
               ·intro w'
                go_simp
                with_reducible rfl
               rotate_left
               ·simp only [Act.put,s1_,s2_,s3_,i64_w,i32_w]
                rfl
               exact norm_ (by simp only [putAll,Act.put,s1_,s2_,s3_]) (hCont (.slice Ao215 t48.length co215,.slice Ao216 t51.length co216,v55,gb59) _ ⟨hHeld,(rm_ HO50.1 (fun _ hk=>hk.2)),(rm_ HO53.1 (fun _ hk=>⟨hk.2,⟨hk.1.1.1.2,⟨hk.1.1.2,hk.1.2⟩⟩⟩)),(rm_ HO56.1 (fun _ hk=>⟨hk.2,⟨hk.1.1.1.2,⟨hk.1.1.2,hk.1.2⟩⟩⟩)),(rm_ Z17.out (fun _ hk=>⟨hk.1.2,⟨hk.2,⟨hk.1.1.1,hk.1.1.2⟩⟩⟩)),(rm_ Z21.out (fun _ hk=>hk.2)),(rm_ Z25.out (fun _ hk=>⟨hk.1.2,⟨hk.2,⟨hk.1.1.1,hk.1.1.2⟩⟩⟩)),(rm_ Z31.out (fun _ hk=>⟨hk.1.2,⟨hk.2,⟨hk.1.1.1,hk.1.1.2⟩⟩⟩)),(bb_ BK1.1),(bb_ BK16.1),(bb_ BK2.1),(bb_ BK20.1),(bb_ BK24.1),(bb_ BK30.1),(bb_ BK59.1),GW59.1,GE59.1,NB1_59.1,NB59_1.1,NB16_59.1,NB59_16.1,NB2_59.1,NB59_2.1,NB20_59.1,NB59_20.1,NB24_59.1,NB59_24.1,NB30_59.1,NB59_30.1,hb_⟩)
             rintro ⟨v49,v52,v55,gb59⟩ w218 ⟨hS_,h0_,h1_,h2_,h3_,h4_,h5_,h6_,h7_,h8_,h9_,h10_,h11_,h12_,h13_,h14_,h15_,h16_,h17_,h18_,h19_,h20_,h21_,h22_,h23_,h24_,h25_,h26_,h27_,h28_⟩
             have n0_ : Aside0 (Kd.R k106 106 w218 w.heap.size (fun k_=>some k_ ≠ (.slice Ao49 t41.length co49 : Value).ownBlock) v49 t48):=⟨h0_⟩
             have n1_ : Aside0 (Kd.R k79 79 w218 w.heap.size (fun k_=>some k_ ≠ (v55 : Value).ownBlock ∧ some k_ ≠ (.slice Ao43 t11.length co43 : Value).ownBlock ∧ some k_ ≠ (.slice Ao58 t43.length co58 : Value).ownBlock ∧ some k_ ≠ (.slice Ao67 t25.length co67 : Value).ownBlock) v52 t51):=⟨h1_⟩
             have n2_ : Aside0 (Kd.R k79 79 w218 w.heap.size (fun k_=>some k_ ≠ (v52 : Value).ownBlock ∧ some k_ ≠ (.slice Ao43 t11.length co43 : Value).ownBlock ∧ some k_ ≠ (.slice Ao58 t43.length co58 : Value).ownBlock ∧ some k_ ≠ (.slice Ao67 t25.length co67 : Value).ownBlock) v55 t54):=⟨h2_⟩
             have n3_ : Aside0 (Kd.R k79 79 w218 w.heap.size (fun k_=>some k_ ≠ (v52 : Value).ownBlock ∧ some k_ ≠ (v55 : Value).ownBlock ∧ some k_ ≠ (.slice Ao58 t43.length co58 : Value).ownBlock ∧ some k_ ≠ (.slice Ao67 t25.length co67 : Value).ownBlock) (.slice Ao43 t11.length co43) t11):=⟨h3_⟩
             have n4_ : Aside0 (Kd.R k106 106 w218 w.heap.size (fun k_=>some k_ ≠ (v49 : Value).ownBlock) (.slice Ao49 t41.length co49) t41):=⟨h4_⟩
             have n5_ : Aside0 (Kd.R k79 79 w218 w.heap.size (fun k_=>some k_ ≠ (v52 : Value).ownBlock ∧ some k_ ≠ (v55 : Value).ownBlock ∧ some k_ ≠ (.slice Ao43 t11.length co43 : Value).ownBlock ∧ some k_ ≠ (.slice Ao67 t25.length co67 : Value).ownBlock) (.slice Ao58 t43.length co58) t43):=⟨h5_⟩
             have n6_ : Aside0 (Kd.R k79 79 w218 w.heap.size (fun k_=>some k_ ≠ (v52 : Value).ownBlock ∧ some k_ ≠ (v55 : Value).ownBlock ∧ some k_ ≠ (.slice Ao43 t11.length co43 : Value).ownBlock ∧ some k_ ≠ (.slice Ao58 t43.length co58 : Value).ownBlock) (.slice Ao67 t25.length co67) t46):=⟨h6_⟩
             have n7_ : Aside0 (w218.heap[gb1]? = some (.cells #[.slice A0_0 l0_0.length c0_0] 24 (0,0))):=⟨h7_⟩
             have n8_ : Aside0 (w218.heap[gb16]? = some (.cells #[.slice Ao43 t11.length co43] 37 (0,0))):=⟨h8_⟩
             have n9_ : Aside0 (w218.heap[gb2]? = some (.cells #[.slice A1_0 l1_0.length c1_0] 27 (0,0))):=⟨h9_⟩
             have n10_ : Aside0 (w218.heap[gb20]? = some (.cells #[.slice Ao49 t41.length co49] 33 (0,0))):=⟨h10_⟩
             have n11_ : Aside0 (w218.heap[gb24]? = some (.cells #[.slice Ao58 t43.length co58] 37 (0,0))):=⟨h11_⟩
             have n12_ : Aside0 (w218.heap[gb30]? = some (.cells #[.slice Ao67 t25.length co67] 37 (0,0))):=⟨h12_⟩
             have n13_ : Aside0 (w218.heap[gb59]? = some (.cells #[.slice none 0 0] 37 (0,0))):=⟨h13_⟩
             have n14_ : Aside0 (w.heap.size ≤ gb59):=⟨h14_⟩
             have n15_ : Aside0 (w.heap.size ≤ gb59):=⟨h15_⟩
             have n16_ : Aside0 (gb1 ≠ gb59):=⟨h16_⟩
             have n17_ : Aside0 (gb59 ≠ gb1):=⟨h17_⟩
             have n18_ : Aside0 (gb16 ≠ gb59):=⟨h18_⟩
             have n19_ : Aside0 (gb59 ≠ gb16):=⟨h19_⟩
             have n20_ : Aside0 (gb2 ≠ gb59):=⟨h20_⟩
             have n21_ : Aside0 (gb59 ≠ gb2):=⟨h21_⟩
             have n22_ : Aside0 (gb20 ≠ gb59):=⟨h22_⟩
             have n23_ : Aside0 (gb59 ≠ gb20):=⟨h23_⟩
             have n24_ : Aside0 (gb24 ≠ gb59):=⟨h24_⟩
             have n25_ : Aside0 (gb59 ≠ gb24):=⟨h25_⟩
             have n26_ : Aside0 (gb30 ≠ gb59):=⟨h26_⟩
             have n27_ : Aside0 (gb59 ≠ gb30):=⟨h27_⟩
             have n28_ : Aside0 (Below w.heap.size w w218):=⟨h28_⟩
             clear Z17
             clear Z21
             clear Z25
             clear Z31
             clear BK1
             clear BK2
             clear BK16
             clear BK20
             clear BK24
             clear BK30
             clear HB
             clear h0_ h1_ h2_ h3_ h4_ h5_ h6_ h7_ h8_ h9_ h10_ h11_ h12_ h13_ h14_ h15_ h16_ h17_ h18_ h19_ h20_ h21_ h22_ h23_ h24_ h25_ h26_ h27_ h28_
             have HO50:=n0_
             have HO53:=n1_
             have HO56:=n2_
             have Z17:=n3_
             have Z21:=n4_
             have Z25:=n5_
             have Z31:=n6_
             have BK1:=n7_
             have BK16:=n8_
             have BK2:=n9_
             have BK20:=n10_
             have BK24:=n11_
             have BK30:=n12_
             have BK59:=n13_
             have GW59:=n14_
             have GE59:=n15_
             have NB1_59:=n16_
             have NB59_1:=n17_
             have NB16_59:=n18_
             have NB59_16:=n19_
             have NB2_59:=n20_
             have NB59_2:=n21_
             have NB20_59:=n22_
             have NB59_20:=n23_
             have NB24_59:=n24_
             have NB59_24:=n25_
             have NB30_59:=n26_
             have NB59_30:=n27_
             have HB:=n28_
             clear n0_ n1_ n2_ n3_ n4_ n5_ n6_ n7_ n8_ n9_ n10_ n11_ n12_ n13_ n14_ n15_ n16_ n17_ n18_ n19_ n20_ n21_ n22_ n23_ n24_ n25_ n26_ n27_ n28_
             have hHeld : w218.cell? ⟨gb1,0,none⟩ = some (.slice A0_0 l0_0.length c0_0) ∧ w218.cell? ⟨gb2,0,none⟩ = some (.slice A1_0 l1_0.length c1_0):=hS_
             obtain ⟨Ao219,co219,eo219⟩:=R_slice HO56.1
             (first | subst eo219 | (injection eo219 with f1_ f2_ f3_;have f4_:=f1_.symm;have f5_:=f3_.symm;clear f1_ f2_ f3_;subst f4_;subst f5_))
             refine norm_ (a':=?_) ?_ ?_
             rotate_left
             ·simp only [putAll,Act.put,s1_,s2_,s3_]
              rfl
             refine one_ (i:=12) (N:=none) #[true,true,true,true,true,true,true,true,true,true,true,true,true,false,false] rfl rfl (one_of HT_.out (by kernel_rfl)) (by decide) (fun K hK=>?_)
             have hs220 : w218.cell? ⟨gb59,0,none⟩ = some (.slice none 0 0):=(blk_cell BK59.1 0).trans rfl
             have hfs220:=blk_frozen BK59.1 0
             have hns220_0:=NB1_59.1
             have hns220_1:=NB2_59.1
             have hns220_2:=NB16_59.1
             have hns220_3:=NB20_59.1
             have hns220_4:=NB24_59.1
             have hns220_5:=NB30_59.1
             have hms220_0:=NB59_1.1
             have hms220_1:=NB59_2.1
             have hms220_2:=NB59_16.1
             have hms220_3:=NB59_20.1
             have hms220_4:=NB59_24.1
             have hms220_5:=NB59_30.1
             refine skip_ (w1:=?_) (by rfl) rfl ?_ ?_
             rotate_left
             ·go_simp
              rfl
             refine hK.out _ _ ⟨((cell_far (p:=⟨gb59,_,none⟩) NB1_59.1 _).trans (hHeld.1)),((cell_far (p:=⟨gb59,_,none⟩) NB2_59.1 _).trans (hHeld.2))⟩ (fun hHeld=>?_)
             clear hK K
             refine pure_ (i:=13) (N:=some 22) (v:=?_) (a':=?_) #[true,true,true,true,true,true,true,true,true,true,true,true,true,true,false] rfl rfl (any_of HT_.out (by kernel_rfl)) (fun _ _ _ h=>h) (Or.inl ⟨by rfl,?_⟩) ?_ ?_
             rotate_left
             ·intro w'
              go_simp
              with_reducible rfl
             rotate_left
             ·simp only [Act.put,s1_,s2_,s3_,i64_w,i32_w]
              rfl
             refine pure_ (i:=14) (N:=some 23) (v:=?_) (a':=?_) #[true,true,true,true,true,true,true,true,true,true,true,true,true,true,true] rfl rfl (any_of HT_.out (by kernel_rfl)) (fun _ _ _ h=>h) (Or.inl ⟨by rfl,?_⟩) ?_ ?_
             rotate_left
             ·intro w'
              go_simp
              with_reducible rfl
             rotate_left
             ·simp only [Act.put,s1_,s2_,s3_,i64_w,i32_w]
              rfl
             refine done_ (done_of HT_.out (by kernel_rfl)) ?_
             go_upto_region 32 with (fail)
             go_cut [141] (fun v141 wc=>∃ (kq : Nat) (x141_200 : Bool),v141 = .bool x141_200 ∧ Aside0 (laws_FnExactNewFault.j2 kq t45 x141_200 t46 = some r) ∧ Aside0 (kq ≤ kj121) ∧ Aside0 (Kd.R k79 79 wc w.heap.size (fun k_=>some k_ ≠ ((.slice Ao58 t43.length co58) : Value).ownBlock ∧ some k_ ≠ ((.slice Ao67 t25.length co67) : Value).ownBlock ∧ some k_ ≠ ((.slice Ao219 t54.length co219) : Value).ownBlock) (.slice Ao43 t11.length co43) t11) ∧ Aside0 (Kd.R k106 106 wc w.heap.size (fun _=>True) (.slice Ao49 t41.length co49) t41) ∧ Aside0 (Kd.R k79 79 wc w.heap.size (fun k_=>some k_ ≠ ((.slice Ao43 t11.length co43) : Value).ownBlock ∧ some k_ ≠ ((.slice Ao67 t25.length co67) : Value).ownBlock ∧ some k_ ≠ ((.slice Ao219 t54.length co219) : Value).ownBlock) (.slice Ao58 t43.length co58) t43) ∧ Aside0 (Kd.R k79 79 wc w.heap.size (fun k_=>some k_ ≠ ((.slice Ao43 t11.length co43) : Value).ownBlock ∧ some k_ ≠ ((.slice Ao58 t43.length co58) : Value).ownBlock ∧ some k_ ≠ ((.slice Ao219 t54.length co219) : Value).ownBlock) (.slice Ao67 t25.length co67) t46) ∧ Aside0 (Kd.R k79 79 wc w.heap.size (fun k_=>some k_ ≠ ((.slice Ao43 t11.length co43) : Value).ownBlock ∧ some k_ ≠ ((.slice Ao58 t43.length co58) : Value).ownBlock ∧ some k_ ≠ ((.slice Ao67 t25.length co67) : Value).ownBlock) (.slice Ao219 t54.length co219) t54) ∧ Aside0 (wc.heap[gb1]? = some (.cells #[(.slice A0_0 l0_0.length c0_0)] 24 (0,0))) ∧ Aside0 (wc.heap[gb2]? = some (.cells #[(.slice A1_0 l1_0.length c1_0)] 27 (0,0))) ∧ Aside0 (wc.heap[gb16]? = some (.cells #[(.slice Ao43 t11.length co43)] 37 (0,0))) ∧ Aside0 (wc.heap[gb20]? = some (.cells #[(.slice Ao49 t41.length co49)] 33 (0,0))) ∧ Aside0 (wc.heap[gb24]? = some (.cells #[(.slice Ao58 t43.length co58)] 37 (0,0))) ∧ Aside0 (wc.heap[gb30]? = some (.cells #[(.slice Ao67 t25.length co67)] 37 (0,0))) ∧ Aside0 (wc.heap[gb59]? = some (.cells #[(.slice Ao219 t54.length co219)] 37 (0,0))) ∧ Aside0 (Below w.heap.size w wc))
             case first =>
              have H:=HC201.1
              clear HC201
              replace H:=Option.bind_eq_some_iff.mp H
              obtain ⟨t60,A2210,H⟩:=H
              replace H : (if t60 = true then (if t57 = t14 then (laws_FnExactNewFault.j2 kj121 t45 (t58 != t15) t46) else (laws_FnExactNewFault.j2 kj121 t45 true t46)) else (laws_FnExactNewFault.j2 kj121 t45 true t46)) = some r:=H
              have A221:=a0_ A2210
              clear A2210
              by_cases c222 : t60 = true
              ·subst c222
               have H1 : (if t57 = t14 then (laws_FnExactNewFault.j2 kj121 t45 (t58 != t15) t46) else (laws_FnExactNewFault.j2 kj121 t45 true t46)) = some r:=by rw [if_pos rfl] at H;exact H
               clear H
               have H:=H1
               clear H1
               by_cases c223 : t57 = t14
               ·rw [if_pos c223] at H
                have c223b0 : (t57 == t14) = true:=beq_iff_eq.mpr c223
                have c223b1 : (t57 != t14) = false:=bne_eq_false_iff_eq.mpr c223
                clear c223
                (first | rw [c223b0] | (simp only [i64_w,i32_w];rw [c223b0]) | skip)
                have H':=a0_ H
                clear H
                have hnb224:=NB59_1.1
                have hnc224:=NB1_59.1
                have hnb225:=NB59_2.1
                have hnc225:=NB2_59.1
                have hnb226:=NB59_16.1
                have hnc226:=NB16_59.1
                have hnb227:=NB59_20.1
                have hnc227:=NB20_59.1
                have hnb228:=NB59_24.1
                have hnc228:=NB24_59.1
                have hnb229:=NB59_30.1
                have hnc229:=NB30_59.1
                have hcz230_0 : w218.cell? ⟨gb59,0,none⟩ = some (.slice none 0 0):=(blk_cell BK59.1 0).trans rfl
                have hfz230_0:=blk_frozen BK59.1 0
                have hnb231:=NB16_1.1
                have hnc231:=NB1_16.1
                have hnb232:=NB16_2.1
                have hnc232:=NB2_16.1
                have hnb233:=NB16_20.1
                have hnc233:=NB20_16.1
                have hnb234:=NB16_24.1
                have hnc234:=NB24_16.1
                have hnb235:=NB16_30.1
                have hnc235:=NB30_16.1
                have hcz236_0 : w218.cell? ⟨gb16,0,none⟩ = some (.slice Ao43 t11.length co43):=(blk_cell BK16.1 0).trans rfl
                have hfz236_0:=blk_frozen BK16.1 0
                go_wp2_with (first | ((with_reducible refine gate_callee (f:=21) rfl ?_);refine goesL_ (some 130) rfl rfl Try.func21 (by kernel_rfl) rfl #[.agg #[.slice Ao219 t54.length co219],.agg #[.slice Ao43 t11.length co43]] rfl lm_ ?_;(with_reducible refine (laws_eqHeap.calls kj121 _ _ t54 _ _ t11 true _ ?side1 ?side2 ?side3 ?side4 A221.1).mono ?_);(case side1=>refine (R_reads' (e:=79) (base:=w.heap.size) (ok:=fun k_=>(some k_ ≠ (v52 : Value).ownBlock ∧ (some k_ ≠ (.slice Ao43 t11.length co43 : Value).ownBlock ∧ (some k_ ≠ (.slice Ao58 t43.length co58 : Value).ownBlock ∧ some k_ ≠ (.slice Ao67 t25.length co67 : Value).ownBlock)))) (n:=t54.length) (c:=co219) ?_).2.2;exact (by (with_reducible repeat (first | apply R_alloc | apply R_drewN | apply R_drew));exact (R_mono (R_far (p:=⟨gb59,0,none⟩) (R_types HO56.1 BK59.1 (by decide)) (fun _ hk=>hk.2) (.slice Ao219 t54.length co219)) (fun _ h_=>h_.1))));(case side2=>exact (R_reads' HO56.1).2.1);(case side3=>refine (R_reads' (e:=79) (base:=w.heap.size) (ok:=fun k_=>(some k_ ≠ (v52 : Value).ownBlock ∧ (some k_ ≠ (.slice Ao219 t54.length co219 : Value).ownBlock ∧ (some k_ ≠ (.slice Ao58 t43.length co58 : Value).ownBlock ∧ some k_ ≠ (.slice Ao67 t25.length co67 : Value).ownBlock)))) (n:=t11.length) (c:=co43) ?_).2.2;exact (by (with_reducible repeat (first | apply R_alloc | apply R_drewN | apply R_drew));exact (R_mono (R_far (p:=⟨gb59,0,none⟩) (R_types Z17.out BK59.1 (by decide)) (fun _ hk=>hk.2) (.slice Ao219 t54.length co219)) (fun _ h_=>h_.1))));(case side4=>exact (R_reads' Z17.out).2.1);rintro e w237 ⟨rfl,hb⟩;refine ⟨_,rfl,?_⟩;replace Z17:=a0_ (R_below (by (with_reducible repeat (first | apply R_alloc | apply R_drewN | apply R_drew));exact (R_mono (R_far (p:=⟨gb59,0,none⟩) (R_types Z17.out BK59.1 (by decide)) (fun _ hk=>hk.2) (.slice Ao219 t54.length co219)) (fun _ h_=>h_.1))) hb);replace Z21:=a0_ (R_below (by (with_reducible repeat (first | apply R_alloc | apply R_drewN | apply R_drew));exact (R_mono (R_far (p:=⟨gb59,0,none⟩) (R_types Z21.out BK59.1 (by decide)) (fun _ hk=>hk.2) (.slice Ao219 t54.length co219)) (fun _ h_=>h_.1))) hb);replace Z25:=a0_ (R_below (by (with_reducible repeat (first | apply R_alloc | apply R_drewN | apply R_drew));exact (R_mono (R_far (p:=⟨gb59,0,none⟩) (R_types Z25.out BK59.1 (by decide)) (fun _ hk=>hk.2) (.slice Ao219 t54.length co219)) (fun _ h_=>h_.1))) hb);replace Z31:=a0_ (R_below (by (with_reducible repeat (first | apply R_alloc | apply R_drewN | apply R_drew));exact (R_mono (R_far (p:=⟨gb59,0,none⟩) (R_types Z31.out BK59.1 (by decide)) (fun _ hk=>hk.2) (.slice Ao219 t54.length co219)) (fun _ h_=>h_.1))) hb);replace HO50:=a0_ (R_below (by (with_reducible repeat (first | apply R_alloc | apply R_drewN | apply R_drew));exact (R_mono (R_far (p:=⟨gb59,0,none⟩) (R_types HO50.1 BK59.1 (by decide)) (fun _ hk=>hk.2) (.slice Ao219 t54.length co219)) (fun _ h_=>h_.1))) hb);replace HO53:=a0_ (R_below (by (with_reducible repeat (first | apply R_alloc | apply R_drewN | apply R_drew));exact (R_mono (R_far (p:=⟨gb59,0,none⟩) (R_types HO53.1 BK59.1 (by decide)) (fun _ hk=>hk.2) (.slice Ao219 t54.length co219)) (fun _ h_=>h_.1))) hb);replace HO56:=a0_ (R_below (by (with_reducible repeat (first | apply R_alloc | apply R_drewN | apply R_drew));exact (R_mono (R_far (p:=⟨gb59,0,none⟩) (R_types HO56.1 BK59.1 (by decide)) (fun _ hk=>hk.2) (.slice Ao219 t54.length co219)) (fun _ h_=>h_.1))) hb);replace BK1:=kf_ BK1 NB1_59 hb;replace BK2:=kf_ BK2 NB2_59 hb;replace BK16:=kf_ BK16 NB16_59 hb;replace BK20:=kf_ BK20 NB20_59 hb;replace BK24:=kf_ BK24 NB24_59 hb;replace BK30:=kf_ BK30 NB30_59 hb;replace BK59:=a0_ (blk_below (g:=gb59) (o:=.cells #[.slice Ao219 t54.length co219] 37 (0,0)) (by (with_reducible repeat (first | refine blk_drewN ?_ _ | refine blk_drew ?_ | refine blk_alloc ?_ _));refine blk_put (cs:=#[.slice none 0 0]) ?_ 0 _ rfl;(with_reducible repeat (first | refine blk_drewN ?_ _ | refine blk_drew ?_ | refine blk_alloc ?_ _));exact BK59.1) hb);replace HB:=a0_ (below_step hb_ hb);(try clear hb);(try clear hb2);(try clear hk);(try clear hi)))
                go_meet
                case rel=>exact ⟨_,((t58 != t15)),(by first | rfl | (simp;done) | (simp [*];done)),H',⟨by have:=HJ26.out;have:=HJ121.out;first | omega | exact Nat.le_refl _⟩,⟨by (try simp only [hl21000_121]);(try simp only [hl25000_121]);(with_reducible repeat (first | apply R_alloc | apply R_drewN | apply R_drew));exact R_mono Z17.out (fun _ hk=>⟨hk.2.2.1,⟨hk.2.2.2,hk.2.1⟩⟩)⟩,⟨by (try simp only [hl21000_121]);(try simp only [hl25000_121]);(with_reducible repeat (first | apply R_alloc | apply R_drewN | apply R_drew));exact R_mono Z21.out (fun _ hk=>trivial)⟩,⟨by (try simp only [hl21000_121]);(try simp only [hl25000_121]);(with_reducible repeat (first | apply R_alloc | apply R_drewN | apply R_drew));exact R_mono Z25.out (fun _ hk=>⟨hk.2.2.1,⟨hk.2.2.2,hk.2.1⟩⟩)⟩,⟨by (try simp only [hl21000_121]);(try simp only [hl25000_121]);(with_reducible repeat (first | apply R_alloc | apply R_drewN | apply R_drew));exact R_mono Z31.out (fun _ hk=>⟨hk.2.2.1,⟨hk.2.2.2,hk.2.1⟩⟩)⟩,⟨by (try simp only [hl21000_121]);(try simp only [hl25000_121]);(with_reducible repeat (first | apply R_alloc | apply R_drewN | apply R_drew));exact R_mono HO56.1 (fun _ hk=>⟨hk.2.1,⟨hk.2.2.1,hk.2.2.2⟩⟩)⟩,⟨by (try simp only [hl21000_121]);(try simp only [hl25000_121]);(with_reducible repeat (first | refine blk_drewN ?_ _ | refine blk_drew ?_ | refine blk_alloc ?_ _));exact BK1.1⟩,⟨by (try simp only [hl21000_121]);(try simp only [hl25000_121]);(with_reducible repeat (first | refine blk_drewN ?_ _ | refine blk_drew ?_ | refine blk_alloc ?_ _));exact BK2.1⟩,⟨by (try simp only [hl21000_121]);(try simp only [hl25000_121]);(with_reducible repeat (first | refine blk_drewN ?_ _ | refine blk_drew ?_ | refine blk_alloc ?_ _));exact BK16.1⟩,⟨by (try simp only [hl21000_121]);(try simp only [hl25000_121]);(with_reducible repeat (first | refine blk_drewN ?_ _ | refine blk_drew ?_ | refine blk_alloc ?_ _));exact BK20.1⟩,⟨by (try simp only [hl21000_121]);(try simp only [hl25000_121]);(with_reducible repeat (first | refine blk_drewN ?_ _ | refine blk_drew ?_ | refine blk_alloc ?_ _));exact BK24.1⟩,⟨by (try simp only [hl21000_121]);(try simp only [hl25000_121]);(with_reducible repeat (first | refine blk_drewN ?_ _ | refine blk_drew ?_ | refine blk_alloc ?_ _));exact BK30.1⟩,⟨by (try simp only [hl21000_121]);(try simp only [hl25000_121]);(with_reducible repeat (first | refine blk_drewN ?_ _ | refine blk_drew ?_ | refine blk_alloc ?_ _));exact BK59.1⟩,⟨hb_⟩⟩
               ·rw [if_neg c223] at H
                have c223b0 : (t57 == t14) = false:=beq_eq_false_iff_ne.mpr c223
                have c223b1 : (t57 != t14) = true:=bne_iff_ne.mpr c223
                (first | rw [c223b0] | (simp only [i64_w,i32_w];rw [c223b0]) | skip)
                have H':=a0_ H
                clear H
                have hnb238:=NB59_1.1
                have hnc238:=NB1_59.1
                have hnb239:=NB59_2.1
                have hnc239:=NB2_59.1
                have hnb240:=NB59_16.1
                have hnc240:=NB16_59.1
                have hnb241:=NB59_20.1
                have hnc241:=NB20_59.1
                have hnb242:=NB59_24.1
                have hnc242:=NB24_59.1
                have hnb243:=NB59_30.1
                have hnc243:=NB30_59.1
                have hcz244_0 : w218.cell? ⟨gb59,0,none⟩ = some (.slice none 0 0):=(blk_cell BK59.1 0).trans rfl
                have hfz244_0:=blk_frozen BK59.1 0
                have hnb245:=NB16_1.1
                have hnc245:=NB1_16.1
                have hnb246:=NB16_2.1
                have hnc246:=NB2_16.1
                have hnb247:=NB16_20.1
                have hnc247:=NB20_16.1
                have hnb248:=NB16_24.1
                have hnc248:=NB24_16.1
                have hnb249:=NB16_30.1
                have hnc249:=NB30_16.1
                have hcz250_0 : w218.cell? ⟨gb16,0,none⟩ = some (.slice Ao43 t11.length co43):=(blk_cell BK16.1 0).trans rfl
                have hfz250_0:=blk_frozen BK16.1 0
                go_wp2_with (first | ((with_reducible refine gate_callee (f:=21) rfl ?_);refine goesL_ (some 130) rfl rfl Try.func21 (by kernel_rfl) rfl #[.agg #[.slice Ao219 t54.length co219],.agg #[.slice Ao43 t11.length co43]] rfl lm_ ?_;(with_reducible refine (laws_eqHeap.calls kj121 _ _ t54 _ _ t11 true _ ?side1 ?side2 ?side3 ?side4 A221.1).mono ?_);(case side1=>refine (R_reads' (e:=79) (base:=w.heap.size) (ok:=fun k_=>(some k_ ≠ (v52 : Value).ownBlock ∧ (some k_ ≠ (.slice Ao43 t11.length co43 : Value).ownBlock ∧ (some k_ ≠ (.slice Ao58 t43.length co58 : Value).ownBlock ∧ some k_ ≠ (.slice Ao67 t25.length co67 : Value).ownBlock)))) (n:=t54.length) (c:=co219) ?_).2.2;exact (by (with_reducible repeat (first | apply R_alloc | apply R_drewN | apply R_drew));exact (R_mono (R_far (p:=⟨gb59,0,none⟩) (R_types HO56.1 BK59.1 (by decide)) (fun _ hk=>hk.2) (.slice Ao219 t54.length co219)) (fun _ h_=>h_.1))));(case side2=>exact (R_reads' HO56.1).2.1);(case side3=>refine (R_reads' (e:=79) (base:=w.heap.size) (ok:=fun k_=>(some k_ ≠ (v52 : Value).ownBlock ∧ (some k_ ≠ (.slice Ao219 t54.length co219 : Value).ownBlock ∧ (some k_ ≠ (.slice Ao58 t43.length co58 : Value).ownBlock ∧ some k_ ≠ (.slice Ao67 t25.length co67 : Value).ownBlock)))) (n:=t11.length) (c:=co43) ?_).2.2;exact (by (with_reducible repeat (first | apply R_alloc | apply R_drewN | apply R_drew));exact (R_mono (R_far (p:=⟨gb59,0,none⟩) (R_types Z17.out BK59.1 (by decide)) (fun _ hk=>hk.2) (.slice Ao219 t54.length co219)) (fun _ h_=>h_.1))));(case side4=>exact (R_reads' Z17.out).2.1);rintro e w251 ⟨rfl,hb⟩;refine ⟨_,rfl,?_⟩;replace Z17:=a0_ (R_below (by (with_reducible repeat (first | apply R_alloc | apply R_drewN | apply R_drew));exact (R_mono (R_far (p:=⟨gb59,0,none⟩) (R_types Z17.out BK59.1 (by decide)) (fun _ hk=>hk.2) (.slice Ao219 t54.length co219)) (fun _ h_=>h_.1))) hb);replace Z21:=a0_ (R_below (by (with_reducible repeat (first | apply R_alloc | apply R_drewN | apply R_drew));exact (R_mono (R_far (p:=⟨gb59,0,none⟩) (R_types Z21.out BK59.1 (by decide)) (fun _ hk=>hk.2) (.slice Ao219 t54.length co219)) (fun _ h_=>h_.1))) hb);replace Z25:=a0_ (R_below (by (with_reducible repeat (first | apply R_alloc | apply R_drewN | apply R_drew));exact (R_mono (R_far (p:=⟨gb59,0,none⟩) (R_types Z25.out BK59.1 (by decide)) (fun _ hk=>hk.2) (.slice Ao219 t54.length co219)) (fun _ h_=>h_.1))) hb);replace Z31:=a0_ (R_below (by (with_reducible repeat (first | apply R_alloc | apply R_drewN | apply R_drew));exact (R_mono (R_far (p:=⟨gb59,0,none⟩) (R_types Z31.out BK59.1 (by decide)) (fun _ hk=>hk.2) (.slice Ao219 t54.length co219)) (fun _ h_=>h_.1))) hb);replace HO50:=a0_ (R_below (by (with_reducible repeat (first | apply R_alloc | apply R_drewN | apply R_drew));exact (R_mono (R_far (p:=⟨gb59,0,none⟩) (R_types HO50.1 BK59.1 (by decide)) (fun _ hk=>hk.2) (.slice Ao219 t54.length co219)) (fun _ h_=>h_.1))) hb);replace HO53:=a0_ (R_below (by (with_reducible repeat (first | apply R_alloc | apply R_drewN | apply R_drew));exact (R_mono (R_far (p:=⟨gb59,0,none⟩) (R_types HO53.1 BK59.1 (by decide)) (fun _ hk=>hk.2) (.slice Ao219 t54.length co219)) (fun _ h_=>h_.1))) hb);replace HO56:=a0_ (R_below (by (with_reducible repeat (first | apply R_alloc | apply R_drewN | apply R_drew));exact (R_mono (R_far (p:=⟨gb59,0,none⟩) (R_types HO56.1 BK59.1 (by decide)) (fun _ hk=>hk.2) (.slice Ao219 t54.length co219)) (fun _ h_=>h_.1))) hb);replace BK1:=kf_ BK1 NB1_59 hb;replace BK2:=kf_ BK2 NB2_59 hb;replace BK16:=kf_ BK16 NB16_59 hb;replace BK20:=kf_ BK20 NB20_59 hb;replace BK24:=kf_ BK24 NB24_59 hb;replace BK30:=kf_ BK30 NB30_59 hb;replace BK59:=a0_ (blk_below (g:=gb59) (o:=.cells #[.slice Ao219 t54.length co219] 37 (0,0)) (by (with_reducible repeat (first | refine blk_drewN ?_ _ | refine blk_drew ?_ | refine blk_alloc ?_ _));refine blk_put (cs:=#[.slice none 0 0]) ?_ 0 _ rfl;(with_reducible repeat (first | refine blk_drewN ?_ _ | refine blk_drew ?_ | refine blk_alloc ?_ _));exact BK59.1) hb);replace HB:=a0_ (below_step hb_ hb);(try clear hb);(try clear hb2);(try clear hk);(try clear hi)))
                go_meet
                case rel=>exact ⟨_,(true),(by first | rfl | (simp;done) | (simp [*];done)),H',⟨by have:=HJ26.out;have:=HJ121.out;first | omega | exact Nat.le_refl _⟩,⟨by (try simp only [hl21000_121]);(try simp only [hl25000_121]);(with_reducible repeat (first | apply R_alloc | apply R_drewN | apply R_drew));exact R_mono Z17.out (fun _ hk=>⟨hk.2.2.1,⟨hk.2.2.2,hk.2.1⟩⟩)⟩,⟨by (try simp only [hl21000_121]);(try simp only [hl25000_121]);(with_reducible repeat (first | apply R_alloc | apply R_drewN | apply R_drew));exact R_mono Z21.out (fun _ hk=>trivial)⟩,⟨by (try simp only [hl21000_121]);(try simp only [hl25000_121]);(with_reducible repeat (first | apply R_alloc | apply R_drewN | apply R_drew));exact R_mono Z25.out (fun _ hk=>⟨hk.2.2.1,⟨hk.2.2.2,hk.2.1⟩⟩)⟩,⟨by (try simp only [hl21000_121]);(try simp only [hl25000_121]);(with_reducible repeat (first | apply R_alloc | apply R_drewN | apply R_drew));exact R_mono Z31.out (fun _ hk=>⟨hk.2.2.1,⟨hk.2.2.2,hk.2.1⟩⟩)⟩,⟨by (try simp only [hl21000_121]);(try simp only [hl25000_121]);(with_reducible repeat (first | apply R_alloc | apply R_drewN | apply R_drew));exact R_mono HO56.1 (fun _ hk=>⟨hk.2.1,⟨hk.2.2.1,hk.2.2.2⟩⟩)⟩,⟨by (try simp only [hl21000_121]);(try simp only [hl25000_121]);(with_reducible repeat (first | refine blk_drewN ?_ _ | refine blk_drew ?_ | refine blk_alloc ?_ _));exact BK1.1⟩,⟨by (try simp only [hl21000_121]);(try simp only [hl25000_121]);(with_reducible repeat (first | refine blk_drewN ?_ _ | refine blk_drew ?_ | refine blk_alloc ?_ _));exact BK2.1⟩,⟨by (try simp only [hl21000_121]);(try simp only [hl25000_121]);(with_reducible repeat (first | refine blk_drewN ?_ _ | refine blk_drew ?_ | refine blk_alloc ?_ _));exact BK16.1⟩,⟨by (try simp only [hl21000_121]);(try simp only [hl25000_121]);(with_reducible repeat (first | refine blk_drewN ?_ _ | refine blk_drew ?_ | refine blk_alloc ?_ _));exact BK20.1⟩,⟨by (try simp only [hl21000_121]);(try simp only [hl25000_121]);(with_reducible repeat (first | refine blk_drewN ?_ _ | refine blk_drew ?_ | refine blk_alloc ?_ _));exact BK24.1⟩,⟨by (try simp only [hl21000_121]);(try simp only [hl25000_121]);(with_reducible repeat (first | refine blk_drewN ?_ _ | refine blk_drew ?_ | refine blk_alloc ?_ _));exact BK30.1⟩,⟨by (try simp only [hl21000_121]);(try simp only [hl25000_121]);(with_reducible repeat (first | refine blk_drewN ?_ _ | refine blk_drew ?_ | refine blk_alloc ?_ _));exact BK59.1⟩,⟨hb_⟩⟩
              ·replace c222:=Bool.eq_false_iff.mpr c222
               subst c222
               have H1 : (laws_FnExactNewFault.j2 kj121 t45 true t46) = some r:=by rw [if_neg (show ¬ (false = true) by decide)] at H;exact H
               clear H
               have H:=H1
               clear H1
               have H':=a0_ H
               clear H
               have hnb252:=NB59_1.1
               have hnc252:=NB1_59.1
               have hnb253:=NB59_2.1
               have hnc253:=NB2_59.1
               have hnb254:=NB59_16.1
               have hnc254:=NB16_59.1
               have hnb255:=NB59_20.1
               have hnc255:=NB20_59.1
               have hnb256:=NB59_24.1
               have hnc256:=NB24_59.1
               have hnb257:=NB59_30.1
               have hnc257:=NB30_59.1
               have hcz258_0 : w218.cell? ⟨gb59,0,none⟩ = some (.slice none 0 0):=(blk_cell BK59.1 0).trans rfl
               have hfz258_0:=blk_frozen BK59.1 0
               have hnb259:=NB16_1.1
               have hnc259:=NB1_16.1
               have hnb260:=NB16_2.1
               have hnc260:=NB2_16.1
               have hnb261:=NB16_20.1
               have hnc261:=NB20_16.1
               have hnb262:=NB16_24.1
               have hnc262:=NB24_16.1
               have hnb263:=NB16_30.1
               have hnc263:=NB30_16.1
               have hcz264_0 : w218.cell? ⟨gb16,0,none⟩ = some (.slice Ao43 t11.length co43):=(blk_cell BK16.1 0).trans rfl
               have hfz264_0:=blk_frozen BK16.1 0
               go_wp2_with (first | ((with_reducible refine gate_callee (f:=21) rfl ?_);refine goesL_ (some 130) rfl rfl Try.func21 (by kernel_rfl) rfl #[.agg #[.slice Ao219 t54.length co219],.agg #[.slice Ao43 t11.length co43]] rfl lm_ ?_;(with_reducible refine (laws_eqHeap.calls kj121 _ _ t54 _ _ t11 false _ ?side1 ?side2 ?side3 ?side4 A221.1).mono ?_);(case side1=>refine (R_reads' (e:=79) (base:=w.heap.size) (ok:=fun k_=>(some k_ ≠ (v52 : Value).ownBlock ∧ (some k_ ≠ (.slice Ao43 t11.length co43 : Value).ownBlock ∧ (some k_ ≠ (.slice Ao58 t43.length co58 : Value).ownBlock ∧ some k_ ≠ (.slice Ao67 t25.length co67 : Value).ownBlock)))) (n:=t54.length) (c:=co219) ?_).2.2;exact (by (with_reducible repeat (first | apply R_alloc | apply R_drewN | apply R_drew));exact (R_mono (R_far (p:=⟨gb59,0,none⟩) (R_types HO56.1 BK59.1 (by decide)) (fun _ hk=>hk.2) (.slice Ao219 t54.length co219)) (fun _ h_=>h_.1))));(case side2=>exact (R_reads' HO56.1).2.1);(case side3=>refine (R_reads' (e:=79) (base:=w.heap.size) (ok:=fun k_=>(some k_ ≠ (v52 : Value).ownBlock ∧ (some k_ ≠ (.slice Ao219 t54.length co219 : Value).ownBlock ∧ (some k_ ≠ (.slice Ao58 t43.length co58 : Value).ownBlock ∧ some k_ ≠ (.slice Ao67 t25.length co67 : Value).ownBlock)))) (n:=t11.length) (c:=co43) ?_).2.2;exact (by (with_reducible repeat (first | apply R_alloc | apply R_drewN | apply R_drew));exact (R_mono (R_far (p:=⟨gb59,0,none⟩) (R_types Z17.out BK59.1 (by decide)) (fun _ hk=>hk.2) (.slice Ao219 t54.length co219)) (fun _ h_=>h_.1))));(case side4=>exact (R_reads' Z17.out).2.1);rintro e w265 ⟨rfl,hb⟩;refine ⟨_,rfl,?_⟩;replace Z17:=a0_ (R_below (by (with_reducible repeat (first | apply R_alloc | apply R_drewN | apply R_drew));exact (R_mono (R_far (p:=⟨gb59,0,none⟩) (R_types Z17.out BK59.1 (by decide)) (fun _ hk=>hk.2) (.slice Ao219 t54.length co219)) (fun _ h_=>h_.1))) hb);replace Z21:=a0_ (R_below (by (with_reducible repeat (first | apply R_alloc | apply R_drewN | apply R_drew));exact (R_mono (R_far (p:=⟨gb59,0,none⟩) (R_types Z21.out BK59.1 (by decide)) (fun _ hk=>hk.2) (.slice Ao219 t54.length co219)) (fun _ h_=>h_.1))) hb);replace Z25:=a0_ (R_below (by (with_reducible repeat (first | apply R_alloc | apply R_drewN | apply R_drew));exact (R_mono (R_far (p:=⟨gb59,0,none⟩) (R_types Z25.out BK59.1 (by decide)) (fun _ hk=>hk.2) (.slice Ao219 t54.length co219)) (fun _ h_=>h_.1))) hb);replace Z31:=a0_ (R_below (by (with_reducible repeat (first | apply R_alloc | apply R_drewN | apply R_drew));exact (R_mono (R_far (p:=⟨gb59,0,none⟩) (R_types Z31.out BK59.1 (by decide)) (fun _ hk=>hk.2) (.slice Ao219 t54.length co219)) (fun _ h_=>h_.1))) hb);replace HO50:=a0_ (R_below (by (with_reducible repeat (first | apply R_alloc | apply R_drewN | apply R_drew));exact (R_mono (R_far (p:=⟨gb59,0,none⟩) (R_types HO50.1 BK59.1 (by decide)) (fun _ hk=>hk.2) (.slice Ao219 t54.length co219)) (fun _ h_=>h_.1))) hb);replace HO53:=a0_ (R_below (by (with_reducible repeat (first | apply R_alloc | apply R_drewN | apply R_drew));exact (R_mono (R_far (p:=⟨gb59,0,none⟩) (R_types HO53.1 BK59.1 (by decide)) (fun _ hk=>hk.2) (.slice Ao219 t54.length co219)) (fun _ h_=>h_.1))) hb);replace HO56:=a0_ (R_below (by (with_reducible repeat (first | apply R_alloc | apply R_drewN | apply R_drew));exact (R_mono (R_far (p:=⟨gb59,0,none⟩) (R_types HO56.1 BK59.1 (by decide)) (fun _ hk=>hk.2) (.slice Ao219 t54.length co219)) (fun _ h_=>h_.1))) hb);replace BK1:=kf_ BK1 NB1_59 hb;replace BK2:=kf_ BK2 NB2_59 hb;replace BK16:=kf_ BK16 NB16_59 hb;replace BK20:=kf_ BK20 NB20_59 hb;replace BK24:=kf_ BK24 NB24_59 hb;replace BK30:=kf_ BK30 NB30_59 hb;replace BK59:=a0_ (blk_below (g:=gb59) (o:=.cells #[.slice Ao219 t54.length co219] 37 (0,0)) (by (with_reducible repeat (first | refine blk_drewN ?_ _ | refine blk_drew ?_ | refine blk_alloc ?_ _));refine blk_put (cs:=#[.slice none 0 0]) ?_ 0 _ rfl;(with_reducible repeat (first | refine blk_drewN ?_ _ | refine blk_drew ?_ | refine blk_alloc ?_ _));exact BK59.1) hb);replace HB:=a0_ (below_step hb_ hb);(try clear hb);(try clear hb2);(try clear hk);(try clear hi)))
               go_meet
               case rel=>exact ⟨_,(true),(by first | rfl | (simp;done) | (simp [*];done)),H',⟨by have:=HJ26.out;have:=HJ121.out;first | omega | exact Nat.le_refl _⟩,⟨by (try simp only [hl21000_121]);(try simp only [hl25000_121]);(with_reducible repeat (first | apply R_alloc | apply R_drewN | apply R_drew));exact R_mono Z17.out (fun _ hk=>⟨hk.2.2.1,⟨hk.2.2.2,hk.2.1⟩⟩)⟩,⟨by (try simp only [hl21000_121]);(try simp only [hl25000_121]);(with_reducible repeat (first | apply R_alloc | apply R_drewN | apply R_drew));exact R_mono Z21.out (fun _ hk=>trivial)⟩,⟨by (try simp only [hl21000_121]);(try simp only [hl25000_121]);(with_reducible repeat (first | apply R_alloc | apply R_drewN | apply R_drew));exact R_mono Z25.out (fun _ hk=>⟨hk.2.2.1,⟨hk.2.2.2,hk.2.1⟩⟩)⟩,⟨by (try simp only [hl21000_121]);(try simp only [hl25000_121]);(with_reducible repeat (first | apply R_alloc | apply R_drewN | apply R_drew));exact R_mono Z31.out (fun _ hk=>⟨hk.2.2.1,⟨hk.2.2.2,hk.2.1⟩⟩)⟩,⟨by (try simp only [hl21000_121]);(try simp only [hl25000_121]);(with_reducible repeat (first | apply R_alloc | apply R_drewN | apply R_drew));exact R_mono HO56.1 (fun _ hk=>⟨hk.2.1,⟨hk.2.2.1,hk.2.2.2⟩⟩)⟩,⟨by (try simp only [hl21000_121]);(try simp only [hl25000_121]);(with_reducible repeat (first | refine blk_drewN ?_ _ | refine blk_drew ?_ | refine blk_alloc ?_ _));exact BK1.1⟩,⟨by (try simp only [hl21000_121]);(try simp only [hl25000_121]);(with_reducible repeat (first | refine blk_drewN ?_ _ | refine blk_drew ?_ | refine blk_alloc ?_ _));exact BK2.1⟩,⟨by (try simp only [hl21000_121]);(try simp only [hl25000_121]);(with_reducible repeat (first | refine blk_drewN ?_ _ | refine blk_drew ?_ | refine blk_alloc ?_ _));exact BK16.1⟩,⟨by (try simp only [hl21000_121]);(try simp only [hl25000_121]);(with_reducible repeat (first | refine blk_drewN ?_ _ | refine blk_drew ?_ | refine blk_alloc ?_ _));exact BK20.1⟩,⟨by (try simp only [hl21000_121]);(try simp only [hl25000_121]);(with_reducible repeat (first | refine blk_drewN ?_ _ | refine blk_drew ?_ | refine blk_alloc ?_ _));exact BK24.1⟩,⟨by (try simp only [hl21000_121]);(try simp only [hl25000_121]);(with_reducible repeat (first | refine blk_drewN ?_ _ | refine blk_drew ?_ | refine blk_alloc ?_ _));exact BK30.1⟩,⟨by (try simp only [hl21000_121]);(try simp only [hl25000_121]);(with_reducible repeat (first | refine blk_drewN ?_ _ | refine blk_drew ?_ | refine blk_alloc ?_ _));exact BK59.1⟩,⟨hb_⟩⟩
             case rest =>
              clear HC201
              try clear c1
              try clear c2
              try clear p2
              try clear c4
              try clear c17
              try clear c18
              try clear c21
              try clear c22
              try clear c23
              try clear c24
              try clear c25
              try clear c26
              try clear c41
              try clear c222
              try clear c223
              try clear c223b0
              try clear c223b1
              try clear c224
              try clear c225
              try clear c226
              try clear c227
              try clear c228
              try clear c229
              try clear c231
              try clear c232
              try clear c233
              try clear c234
              try clear c235
              try clear c238
              try clear c239
              try clear c240
              try clear c241
              try clear c242
              try clear c243
              try clear c245
              try clear c246
              try clear c247
              try clear c248
              try clear c249
              try clear c252
              try clear c253
              try clear c254
              try clear c255
              try clear c256
              try clear c257
              try clear c259
              try clear c260
              try clear c261
              try clear c262
              try clear c263
              try clear hcz230_0
              try clear hcz236_0
              try clear hcz244_0
              try clear hcz250_0
              try clear hcz258_0
              try clear hcz264_0
              try clear hfz230_0
              try clear hfz236_0
              try clear hfz244_0
              try clear hfz250_0
              try clear hfz258_0
              try clear hfz264_0
              obtain ⟨kq,x141_200,rfl,HA,HJ200,Z17,Z21,Z25,Z31,Z60,BK1,BK2,BK16,BK20,BK24,BK30,BK59,HB⟩:=hcut
              have hl31000_200:=(R_reads' Z31.out).1
              rw [hl31000_200] at Z31
              (try simp only [hl31000_200])
              (try simp only [hl31000_200] at BK1)
              (try simp only [hl31000_200] at BK2)
              (try simp only [hl31000_200] at BK16)
              (try simp only [hl31000_200] at BK20)
              (try simp only [hl31000_200] at BK24)
              (try simp only [hl31000_200] at BK30)
              (try simp only [hl31000_200] at BK59)
              (try simp only [hl31000_200] at Z17)
              (try simp only [hl31000_200] at Z21)
              (try simp only [hl31000_200] at Z25)
              (try simp only [hl31000_200] at Z60)
              cases kq with
              | zero=>exact absurd HA.out (by simp [laws_FnExactNewFault.j2])
              | succ kj200 =>
               have H:=HA.out
               clear HA
               simp only [laws_FnExactNewFault.j2] at H
               by_cases c266 : x141_200 = true
               ·subst c266
                have H1 : (some false) = some r:=by rw [if_pos rfl] at H;exact H
                clear H
                have H:=H1
                clear H1
                obtain rfl:=Option.some.inj H
                go_wp2
                go_ret
                exact ⟨by first | rfl | (simp [errW_none,errW_some] <;> rfl) | (simp [*,errW_none,errW_some] <;> rfl),hb_⟩
               ·replace c266:=Bool.eq_false_iff.mpr c266
                subst c266
                have H1 : ((laws_heldHeap.f kj200 t46 1).bind fun t61=>(if t61 < 0 then (some false) else (if t61 = t45 then (some true) else (some false)))) = some r:=by rw [if_neg (show ¬ (false = true) by decide)] at H;exact H
                clear H
                have H:=H1
                clear H1
                replace H:=Option.bind_eq_some_iff.mp H
                obtain ⟨t61,A2670,H⟩:=H
                replace H : (if t61 < 0 then (some false) else (if t61 = t45 then (some true) else (some false))) = some r:=H
                have A267:=a0_ A2670
                clear A2670
                by_cases c268 : t61 < 0
                ·rw [if_pos c268] at H
                 have c268b0 : decide (t61 < 0) = true:=decide_eq_true c268
                 clear c268
                 obtain rfl:=Option.some.inj H
                 have hnb269:=NB30_1.1
                 have hnc269:=NB1_30.1
                 have hnb270:=NB30_2.1
                 have hnc270:=NB2_30.1
                 have hnb271:=NB30_16.1
                 have hnc271:=NB16_30.1
                 have hnb272:=NB30_20.1
                 have hnc272:=NB20_30.1
                 have hnb273:=NB30_24.1
                 have hnc273:=NB24_30.1
                 have hnb274:=NB30_59.1
                 have hnc274:=NB59_30.1
                 have hcz275_0 : wc.cell? ⟨gb30,0,none⟩ = some (.slice Ao67 t46.length co67):=(blk_cell BK30.1 0).trans rfl
                 have hfz275_0:=blk_frozen BK30.1 0
                 go_wp2_with (first | ((with_reducible refine gate_callee (f:=37) rfl ?_);refine goesL_ (some 144) rfl rfl Try.func37 (by kernel_rfl) rfl #[.agg #[.slice Ao67 t46.length co67],.int .i64 1] rfl lm_ ?_;(with_reducible refine (laws_heldHeap.calls kj200 _ _ t46 1 t61 _ ?side1 ?side2 A267.1).mono ?_);(case side1=>exact cc_ (R_reads' Z31.out).2.2);(case side2=>exact (R_reads' Z31.out).2.1);rintro e w276 ⟨rfl,hb⟩;refine ⟨_,rfl,?_⟩;replace Z17:=rb_ Z17 hb;replace Z21:=rb_ Z21 hb;replace Z25:=rb_ Z25 hb;replace Z31:=rb_ Z31 hb;replace Z60:=rb_ Z60 hb;replace BK1:=kb_ BK1 hb;replace BK2:=kb_ BK2 hb;replace BK16:=kb_ BK16 hb;replace BK20:=kb_ BK20 hb;replace BK24:=kb_ BK24 hb;replace BK30:=kb_ BK30 hb;replace BK59:=kb_ BK59 hb;replace HB:=a0_ (below_step hb_ hb);(try clear hb);(try clear hb2);(try clear hk);(try clear hi)))
                 go_ret
                 exact ⟨by first | rfl | (simp [errW_none,errW_some] <;> rfl) | (simp [*,errW_none,errW_some] <;> rfl),hb_⟩
                ·rw [if_neg c268] at H
                 have c268b0 : decide (t61 < 0) = false:=decide_eq_false c268
                 clear c268
                 by_cases c277 : t61 = t45
                 ·rw [if_pos c277] at H
                  have c277b0 : (t61 == t45) = true:=beq_iff_eq.mpr c277
                  have c277b1 : (t61 != t45) = false:=bne_eq_false_iff_eq.mpr c277
                  clear c277
                  obtain rfl:=Option.some.inj H
                  have hnb278:=NB30_1.1
                  have hnc278:=NB1_30.1
                  have hnb279:=NB30_2.1
                  have hnc279:=NB2_30.1
                  have hnb280:=NB30_16.1
                  have hnc280:=NB16_30.1
                  have hnb281:=NB30_20.1
                  have hnc281:=NB20_30.1
                  have hnb282:=NB30_24.1
                  have hnc282:=NB24_30.1
                  have hnb283:=NB30_59.1
                  have hnc283:=NB59_30.1
                  have hcz284_0 : wc.cell? ⟨gb30,0,none⟩ = some (.slice Ao67 t46.length co67):=(blk_cell BK30.1 0).trans rfl
                  have hfz284_0:=blk_frozen BK30.1 0
                  go_wp2_with (first | ((with_reducible refine gate_callee (f:=37) rfl ?_);refine goesL_ (some 144) rfl rfl Try.func37 (by kernel_rfl) rfl #[.agg #[.slice Ao67 t46.length co67],.int .i64 1] rfl lm_ ?_;(with_reducible refine (laws_heldHeap.calls kj200 _ _ t46 1 t61 _ ?side1 ?side2 A267.1).mono ?_);(case side1=>exact cc_ (R_reads' Z31.out).2.2);(case side2=>exact (R_reads' Z31.out).2.1);rintro e w285 ⟨rfl,hb⟩;refine ⟨_,rfl,?_⟩;replace Z17:=rb_ Z17 hb;replace Z21:=rb_ Z21 hb;replace Z25:=rb_ Z25 hb;replace Z31:=rb_ Z31 hb;replace Z60:=rb_ Z60 hb;replace BK1:=kb_ BK1 hb;replace BK2:=kb_ BK2 hb;replace BK16:=kb_ BK16 hb;replace BK20:=kb_ BK20 hb;replace BK24:=kb_ BK24 hb;replace BK30:=kb_ BK30 hb;replace BK59:=kb_ BK59 hb;replace HB:=a0_ (below_step hb_ hb);(try clear hb);(try clear hb2);(try clear hk);(try clear hi)))
                  go_ret
                  exact ⟨by first | rfl | (simp [errW_none,errW_some] <;> rfl) | (simp [*,errW_none,errW_some] <;> rfl),hb_⟩
                 ·rw [if_neg c277] at H
                  have c277b0 : (t61 == t45) = false:=beq_eq_false_iff_ne.mpr c277
                  have c277b1 : (t61 != t45) = true:=bne_iff_ne.mpr c277
                  obtain rfl:=Option.some.inj H
                  have hnb286:=NB30_1.1
                  have hnc286:=NB1_30.1
                  have hnb287:=NB30_2.1
                  have hnc287:=NB2_30.1
                  have hnb288:=NB30_16.1
                  have hnc288:=NB16_30.1
                  have hnb289:=NB30_20.1
                  have hnc289:=NB20_30.1
                  have hnb290:=NB30_24.1
                  have hnc290:=NB24_30.1
                  have hnb291:=NB30_59.1
                  have hnc291:=NB59_30.1
                  have hcz292_0 : wc.cell? ⟨gb30,0,none⟩ = some (.slice Ao67 t46.length co67):=(blk_cell BK30.1 0).trans rfl
                  have hfz292_0:=blk_frozen BK30.1 0
                  go_wp2_with (first | ((with_reducible refine gate_callee (f:=37) rfl ?_);refine goesL_ (some 144) rfl rfl Try.func37 (by kernel_rfl) rfl #[.agg #[.slice Ao67 t46.length co67],.int .i64 1] rfl lm_ ?_;(with_reducible refine (laws_heldHeap.calls kj200 _ _ t46 1 t61 _ ?side1 ?side2 A267.1).mono ?_);(case side1=>exact cc_ (R_reads' Z31.out).2.2);(case side2=>exact (R_reads' Z31.out).2.1);rintro e w293 ⟨rfl,hb⟩;refine ⟨_,rfl,?_⟩;replace Z17:=rb_ Z17 hb;replace Z21:=rb_ Z21 hb;replace Z25:=rb_ Z25 hb;replace Z31:=rb_ Z31 hb;replace Z60:=rb_ Z60 hb;replace BK1:=kb_ BK1 hb;replace BK2:=kb_ BK2 hb;replace BK16:=kb_ BK16 hb;replace BK20:=kb_ BK20 hb;replace BK24:=kb_ BK24 hb;replace BK30:=kb_ BK30 hb;replace BK59:=kb_ BK59 hb;replace HB:=a0_ (below_step hb_ hb);(try clear hb);(try clear hb2);(try clear hk);(try clear hi)))
                  go_ret
                  exact ⟨by first | rfl | (simp [errW_none,errW_some] <;> rfl) | (simp [*,errW_none,errW_some] <;> rfl),hb_⟩
            ·rw [if_neg c197] at H
             have c197b0 : (t47 == t45) = false:=beq_eq_false_iff_ne.mpr c197
             have c197b1 : (t47 != t45) = true:=bne_iff_ne.mpr c197
             obtain rfl:=Option.some.inj H
             have hnb294:=NB30_1.1
             have hnc294:=NB1_30.1
             have hnb295:=NB30_2.1
             have hnc295:=NB2_30.1
             have hnb296:=NB30_16.1
             have hnc296:=NB16_30.1
             have hnb297:=NB30_20.1
             have hnc297:=NB20_30.1
             have hnb298:=NB30_24.1
             have hnc298:=NB24_30.1
             have hcz299_0 : wc.cell? ⟨gb30,0,none⟩ = some (.slice Ao67 t25.length co67):=(blk_cell BK30.1 0).trans rfl
             have hfz299_0:=blk_frozen BK30.1 0
             go_wp2_with (first | ((with_reducible refine gate_callee (f:=30) rfl ?_);refine goesL_ (some 108) rfl rfl Try.func30 (by kernel_rfl) rfl #[.agg #[.slice Ao67 t25.length co67],.int .i64 1] rfl lm_ ?_;(with_reducible refine (laws_markHeap.calls kj121 (fun k_=>some k_ = (.slice Ao67 t25.length co67 : Value).ownBlock) (.slice Ao67 t25.length co67) t25 1 t45 t46 w _ ?side1 ?side2 A185.1).mono ?_);(case side1=>exact hb_);(case side2=>exact R_tight rfl Z31.out);rintro e w300 ⟨rfl,hy0,hb,hkp⟩;refine ⟨_,rfl,?_⟩;have n0_:=a0_ (R_mono (ok':=fun k_=>some k_ ≠ (.slice Ao58 t43.length co58 : Value).ownBlock ∧ some k_ ≠ (.slice Ao67 t25.length co67 : Value).ownBlock) (R_keptB (Z17.out) hkp (fun k_ hk_ hs_=>(hk_.2) hs_)) (fun k_ hk_=>⟨hk_.1.1,hk_.1.2⟩));have n1_:=a0_ (R_mono (ok':=fun k_=>True) (R_keptB ((R_apart' Z21.out (R_typed Z31.out) (by decide))) hkp (fun k_ hk_ hs_=>(hk_.2) hs_)) (fun k_ hk_=>trivial));have n2_:=a0_ (R_mono (ok':=fun k_=>some k_ ≠ (.slice Ao43 t11.length co43 : Value).ownBlock ∧ some k_ ≠ (.slice Ao67 t25.length co67 : Value).ownBlock) (R_keptB (Z25.out) hkp (fun k_ hk_ hs_=>(hk_.2) hs_)) (fun k_ hk_=>⟨hk_.1.1,hk_.1.2⟩));have n3_:=a0_ (R_reok rfl hy0 (fun k_ e_=>Z31.out.1 k_ e_));have n4_:=a0_ (blk_kept (bb_ BK1.1) hkp (fun hs_=>(fun e_=>(R_ne Z31.out BK1.1 (by decide)) e_) hs_));have n5_:=a0_ (blk_kept (bb_ BK2.1) hkp (fun hs_=>(fun e_=>(R_ne Z31.out BK2.1 (by decide)) e_) hs_));have n6_:=a0_ (blk_kept (bb_ BK16.1) hkp (fun hs_=>(fun e_=>(R_ne Z31.out BK16.1 (by decide)) e_) hs_));have n7_:=a0_ (blk_kept (bb_ BK20.1) hkp (fun hs_=>(fun e_=>(R_ne Z31.out BK20.1 (by decide)) e_) hs_));have n8_:=a0_ (blk_kept (bb_ BK24.1) hkp (fun hs_=>(fun e_=>(R_ne Z31.out BK24.1 (by decide)) e_) hs_));have n9_:=a0_ (blk_kept (bb_ BK30.1) hkp (fun hs_=>(fun e_=>(R_ne Z31.out BK30.1 (by decide)) e_) hs_));have n10_:=a0_ (hb);clear Z17 Z21;clear Z25 Z31;clear BK1 BK2;clear BK16 BK20;clear BK24 BK30 HB;have Z17:=n0_;have Z21:=n1_;have Z25:=n2_;have Z31:=n3_;have BK1:=n4_;have BK2:=n5_;have BK16:=n6_;have BK20:=n7_;have BK24:=n8_;have BK30:=n9_;have HB:=n10_;clear n0_ n1_ n2_ n3_ n4_ n5_ n6_ n7_ n8_ n9_ n10_;(try clear hb);(try clear hkp);(try clear hy0);have hcz301_0 : w300.cell? ⟨gb30,0,none⟩ = some (.slice Ao67 t25.length co67):=(blk_cell BK30.1 0).trans rfl;have hfz301_0:=blk_frozen BK30.1 0) | ((with_reducible refine gate_callee (f:=37) rfl ?_);refine goesL_ (some 111) rfl rfl Try.func37 (by kernel_rfl) rfl #[.agg #[.slice Ao67 t46.length co67],.int .i64 1] rfl (by (try simp only [List.map_toArray,List.map_cons,List.map_nil]);first | done | (rw [show t46.length = t25.length from (R_reads' Z31.out).1.symm] <;> rfl) | rfl | (simp only [List.length_drop,List.length_take];rfl)) ?_;(with_reducible refine (laws_heldHeap.calls kj121 _ _ t46 1 t47 _ ?side1 ?side2 A186.1).mono ?_);(case side1=>exact cc_ (R_reads' Z31.out).2.2);(case side2=>rw [show t46.length = t25.length from (R_reads' Z31.out).1.symm];exact (R_reads' Z31.out).2.1);rintro e w302 ⟨rfl,hb⟩;refine ⟨_,rfl,?_⟩;replace Z17:=rb_ Z17 hb;replace Z21:=rb_ Z21 hb;replace Z25:=rb_ Z25 hb;replace Z31:=rb_ Z31 hb;replace BK1:=kb_ BK1 hb;replace BK2:=kb_ BK2 hb;replace BK16:=kb_ BK16 hb;replace BK20:=kb_ BK20 hb;replace BK24:=kb_ BK24 hb;replace BK30:=kb_ BK30 hb;replace HB:=a0_ (below_step hb_ hb);(try clear hb);(try clear hb2);(try clear hk);(try clear hi)))
             go_ret
             exact ⟨by first | rfl | (simp [errW_none,errW_some] <;> rfl) | (simp [*,errW_none,errW_some] <;> rfl),hb_⟩
       ·replace c119:=Bool.eq_false_iff.mpr c119
        subst c119
        have H1 : (some false) = some r:=by rw [if_neg (show ¬ (false = true) by decide)] at H;exact H
        clear H
        have H:=H1
        clear H1
        obtain rfl:=Option.some.inj H
        try go_wp2
        have n0_:=a0_ (R_drew Z17.out)
        have n1_:=a0_ (R_drew Z21.out)
        have n2_:=a0_ (R_drew Z25.out)
        have n3_:=a0_ (R_drew Z31.out)
        have n4_:=a0_ (blk_drew BK1.1)
        have n5_:=a0_ (blk_drew BK2.1)
        have n6_:=a0_ (blk_drew BK16.1)
        have n7_:=a0_ (blk_drew BK20.1)
        have n8_:=a0_ (blk_drew BK24.1)
        have n9_:=a0_ (blk_drew BK30.1)
        have n10_:=a0_ (below_drew1 HB.1)
        clear Z17
        clear Z21
        clear Z25
        clear Z31
        clear BK1
        clear BK2
        clear BK16
        clear BK20
        clear BK24
        clear BK30
        clear HB
        have Z17:=n0_
        have Z21:=n1_
        have Z25:=n2_
        have Z31:=n3_
        have BK1:=n4_
        have BK2:=n5_
        have BK16:=n6_
        have BK20:=n7_
        have BK24:=n8_
        have BK30:=n9_
        have HB:=n10_
        clear n0_ n1_ n2_ n3_ n4_ n5_ n6_ n7_ n8_ n9_ n10_
        refine start_ (n:=5) (S:=fun w'=>w'.cell? ⟨gb20,0,none⟩ = some (.slice Ao49 t17.length co49) ∧ w'.cell? ⟨gb1,0,none⟩ = some (.slice A0_0 l0_0.length c0_0)) (ds:=[]) #[false,false,false,false,false] (by kernel_rfl) rfl rfl ⟨(blk_cell BK20.1 0).trans rfl,(blk_cell BK1.1 0).trans rfl⟩ (fun hHeld=>?_)
        generalize wc.drew = w303 at Z17 Z21 Z25 Z31 BK1 BK2 BK16 BK20 BK24 BK30 HB hHeld ⊢
        refine take_ (i:=0) (N:=some 72) (v:=?_) (a':=?_) #[true,false,false,false,false] rfl rfl (by kernel_rfl) (fun _ _ _ h=>h) (Or.inl ⟨by rfl,?_⟩) hHeld ?_ ?_
        rotate_left
        ·rintro w' ⟨s0,s1⟩
         go_simp
         with_reducible rfl
        rotate_left
        ·simp only [Act.put,s1_,s2_,s3_,i64_w,i32_w]
         rfl
        refine take_ (i:=1) (N:=some 73) (v:=?_) (a':=?_) #[true,true,false,false,false] rfl rfl (by kernel_rfl) (fun _ _ _ h=>h) (Or.inl ⟨by rfl,?_⟩) hHeld ?_ ?_
        rotate_left
        ·rintro w' ⟨s0,s1⟩
         go_simp
         with_reducible rfl
        rotate_left
        ·simp only [Act.put,s1_,s2_,s3_,i64_w,i32_w]
         rfl
        refine one_ (i:=2) (N:=some 74) #[true,true,true,false,false] rfl rfl (by kernel_rfl) (by decide) (fun K hK=>?_)
        refine goes_ Try.func17 (by kernel_rfl) rfl #[.agg #[.slice A0_0 l0_0.length c0_0]] (by rfl) rfl rfl lm_ ?_
        with_reducible refine (laws_toTree.calls kj26 _ _ l0_0 t32 _ ?side1 ?side2 A114.1).mono ?_
        (case side1=>exact cc_ (C_below HR0_0.1 HB.1))
        (case side2=>exact HC0_0.1)
        rintro e w304 ⟨v33,rfl,ho0,hb⟩
        refine ⟨_,rfl,?_⟩
        have n0_:=rb_ Z17 hb
        have n1_:=a0_ (R_elder' (rr_ Z21.out) (R_base ho0) hb)
        have n2_:=rb_ Z25 hb
        have n3_:=rb_ Z31 hb
        have n4_:=a0_ (R_lower (R_new' ho0 (R_lt (rr_ Z21.out))) (below_size hb_))
        have n5_:=kb_ BK1 hb
        have n6_:=kb_ BK2 hb
        have n7_:=kb_ BK16 hb
        have n8_:=kb_ BK20 hb
        have n9_:=kb_ BK24 hb
        have n10_:=kb_ BK30 hb
        have n11_:=a0_ (below_step hb_ hb)
        clear Z17
        clear Z21
        clear Z25
        clear Z31
        clear BK1
        clear BK2
        clear BK16
        clear BK20
        clear BK24
        clear BK30
        clear HB
        have Z17:=n0_
        have Z21:=n1_
        have Z25:=n2_
        have Z31:=n3_
        have HO34:=n4_
        have BK1:=n5_
        have BK2:=n6_
        have BK16:=n7_
        have BK20:=n8_
        have BK24:=n9_
        have BK30:=n10_
        have HB:=n11_
        clear n0_ n1_ n2_ n3_ n4_ n5_ n6_ n7_ n8_ n9_ n10_ n11_
        (try clear hb)
        (try clear hb2)
        (try clear hk)
        (try clear hi)
        (try clear ho0)
        obtain ⟨Ao305,co305,eo305⟩:=R_slice HO34.1
        (first | subst eo305 | (injection eo305 with f1_ f2_ f3_;have f4_:=f1_.symm;have f5_:=f3_.symm;clear f1_ f2_ f3_;subst f4_;subst f5_))
        refine hK.out _ _ ⟨(blk_cell BK20.1 0).trans rfl,(blk_cell BK1.1 0).trans rfl⟩ (fun hHeld=>?_)
        clear hK K
        refine norm_ (a':=?_) ?_ ?_
        rotate_left
        ·show Act.put _ (some 74) _ = _
         simp only [Act.put,s1_,s2_,s3_,i64_w,i32_w]
         rfl
        refine one_ (i:=3) (N:=some 75) #[true,true,true,true,false] rfl rfl (by kernel_rfl) (by decide) (fun K hK=>?_)
        refine goes_ Try.func20 (by kernel_rfl) rfl #[.agg #[.slice Ao49 t17.length co49],.agg #[.slice Ao305 t32.length co305]] (by rfl) rfl rfl lm_ ?_
        with_reducible refine (laws_eqTree.calls kj26 _ _ t17 _ _ t32 true _ ?side1 ?side2 ?side3 ?side4 A115.1).mono ?_
        (case side1=>exact cc_ (R_reads' Z21.out).2.2)
        (case side2=>exact (R_reads' Z21.out).2.1)
        (case side3=>exact cc_ (R_reads' HO34.1).2.2)
        (case side4=>exact (R_reads' HO34.1).2.1)
        rintro e w306 ⟨rfl,hb⟩
        refine ⟨_,rfl,?_⟩
        have n0_:=rb_ Z17 hb
        have n1_:=rb_ Z21 hb
        have n2_:=rb_ Z25 hb
        have n3_:=rb_ Z31 hb
        have n4_:=rb_ HO34 hb
        have n5_:=kb_ BK1 hb
        have n6_:=kb_ BK2 hb
        have n7_:=kb_ BK16 hb
        have n8_:=kb_ BK20 hb
        have n9_:=kb_ BK24 hb
        have n10_:=kb_ BK30 hb
        have n11_:=a0_ (below_step hb_ hb)
        clear Z17
        clear Z21
        clear Z25
        clear Z31
        clear HO34
        clear BK1
        clear BK2
        clear BK16
        clear BK20
        clear BK24
        clear BK30
        clear HB
        have Z17:=n0_
        have Z21:=n1_
        have Z25:=n2_
        have Z31:=n3_
        have HO34:=n4_
        have BK1:=n5_
        have BK2:=n6_
        have BK16:=n7_
        have BK20:=n8_
        have BK24:=n9_
        have BK30:=n10_
        have HB:=n11_
        clear n0_ n1_ n2_ n3_ n4_ n5_ n6_ n7_ n8_ n9_ n10_ n11_
        (try clear hb)
        (try clear hb2)
        (try clear hk)
        (try clear hi)
        refine hK.out _ _ ⟨(blk_cell BK20.1 0).trans rfl,(blk_cell BK1.1 0).trans rfl⟩ (fun hHeld=>?_)
        clear hK K
        refine norm_ (a':=?_) ?_ ?_
        rotate_left
        ·show Act.put _ (some 75) _ = _
         simp only [Act.put,s1_,s2_,s3_,i64_w,i32_w]
         rfl
        refine pure_ (i:=4) (N:=some 76) (v:=?_) (a':=?_) #[true,true,true,true,true] rfl rfl (by kernel_rfl) (fun _ _ _ h=>h) (Or.inl ⟨by rfl,?_⟩) ?_ ?_
        rotate_left
        ·intro w'
         go_simp
         with_reducible rfl
        rotate_left
        ·simp only [Act.put,s1_,s2_,s3_,i64_w,i32_w]
         rfl
        refine done_ (by kernel_rfl) ?_
        try go_wp2
        have n0_:=a0_ (R_drew Z17.out)
        have n1_:=a0_ (R_drew Z21.out)
        have n2_:=a0_ (R_drew Z25.out)
        have n3_:=a0_ (R_drew Z31.out)
        have n4_:=a0_ (R_drew HO34.1)
        have n5_:=a0_ (blk_drew BK1.1)
        have n6_:=a0_ (blk_drew BK2.1)
        have n7_:=a0_ (blk_drew BK16.1)
        have n8_:=a0_ (blk_drew BK20.1)
        have n9_:=a0_ (blk_drew BK24.1)
        have n10_:=a0_ (blk_drew BK30.1)
        have n11_:=a0_ (below_drew1 HB.1)
        clear Z17
        clear Z21
        clear Z25
        clear Z31
        clear HO34
        clear BK1
        clear BK2
        clear BK16
        clear BK20
        clear BK24
        clear BK30
        clear HB
        have Z17:=n0_
        have Z21:=n1_
        have Z25:=n2_
        have Z31:=n3_
        have HO34:=n4_
        have BK1:=n5_
        have BK2:=n6_
        have BK16:=n7_
        have BK20:=n8_
        have BK24:=n9_
        have BK30:=n10_
        have HB:=n11_
        clear n0_ n1_ n2_ n3_ n4_ n5_ n6_ n7_ n8_ n9_ n10_ n11_
        refine start_ (n:=5) (S:=fun w'=>w'.cell? ⟨gb24,0,none⟩ = some (.slice Ao58 t21.length co58) ∧ w'.cell? ⟨gb2,0,none⟩ = some (.slice A1_0 l1_0.length c1_0)) (ds:=[]) #[false,false,false,false,false] (by kernel_rfl) rfl rfl ⟨(blk_cell BK24.1 0).trans rfl,(blk_cell BK2.1 0).trans rfl⟩ (fun hHeld=>?_)
        generalize w306.drew = w307 at Z17 Z21 Z25 Z31 HO34 BK1 BK2 BK16 BK20 BK24 BK30 HB hHeld ⊢
        refine take_ (i:=0) (N:=some 77) (v:=?_) (a':=?_) #[true,false,false,false,false] rfl rfl (by kernel_rfl) (fun _ _ _ h=>h) (Or.inl ⟨by rfl,?_⟩) hHeld ?_ ?_
        rotate_left
        ·rintro w' ⟨s0,s1⟩
         go_simp
         with_reducible rfl
        rotate_left
        ·simp only [Act.put,s1_,s2_,s3_,i64_w,i32_w]
         rfl
        refine take_ (i:=1) (N:=some 78) (v:=?_) (a':=?_) #[true,true,false,false,false] rfl rfl (by kernel_rfl) (fun _ _ _ h=>h) (Or.inl ⟨by rfl,?_⟩) hHeld ?_ ?_
        rotate_left
        ·rintro w' ⟨s0,s1⟩
         go_simp
         with_reducible rfl
        rotate_left
        ·simp only [Act.put,s1_,s2_,s3_,i64_w,i32_w]
         rfl
        refine one_ (i:=2) (N:=some 79) #[true,true,true,false,false] rfl rfl (by kernel_rfl) (by decide) (fun K hK=>?_)
        refine goes_ Try.func18 (by kernel_rfl) rfl #[.agg #[.slice A1_0 l1_0.length c1_0]] (by rfl) rfl rfl lm_ ?_
        with_reducible refine (laws_toHeap.calls kj26 _ _ l1_0 t36 _ ?side1 ?side2 A117.1).mono ?_
        (case side1=>exact cc_ (C_below HR1_0.1 HB.1))
        (case side2=>exact HC1_0.1)
        rintro e w308 ⟨v37,rfl,ho0,hb⟩
        refine ⟨_,rfl,?_⟩
        have n0_:=a0_ (R_elder' (rr_ Z17.out) (R_base ho0) hb)
        have n1_:=rb_ Z21 hb
        have n2_:=a0_ (R_elder' (rr_ Z25.out) (R_base ho0) hb)
        have n3_:=a0_ (R_elder' (rr_ Z31.out) (R_base ho0) hb)
        have n4_:=rb_ HO34 hb
        have n5_:=a0_ (R_lower (R_new' (R_new' (R_new' ho0 (R_lt (rr_ Z17.out))) (R_lt (rr_ Z25.out))) (R_lt (rr_ Z31.out))) (below_size hb_))
        have n6_:=kb_ BK1 hb
        have n7_:=kb_ BK2 hb
        have n8_:=kb_ BK16 hb
        have n9_:=kb_ BK20 hb
        have n10_:=kb_ BK24 hb
        have n11_:=kb_ BK30 hb
        have n12_:=a0_ (below_step hb_ hb)
        clear Z17
        clear Z21
        clear Z25
        clear Z31
        clear HO34
        clear BK1
        clear BK2
        clear BK16
        clear BK20
        clear BK24
        clear BK30
        clear HB
        have Z17:=n0_
        have Z21:=n1_
        have Z25:=n2_
        have Z31:=n3_
        have HO34:=n4_
        have HO38:=n5_
        have BK1:=n6_
        have BK2:=n7_
        have BK16:=n8_
        have BK20:=n9_
        have BK24:=n10_
        have BK30:=n11_
        have HB:=n12_
        clear n0_ n1_ n2_ n3_ n4_ n5_ n6_ n7_ n8_ n9_ n10_ n11_ n12_
        (try clear hb)
        (try clear hb2)
        (try clear hk)
        (try clear hi)
        (try clear ho0)
        obtain ⟨Ao309,co309,eo309⟩:=R_slice HO38.1
        (first | subst eo309 | (injection eo309 with f1_ f2_ f3_;have f4_:=f1_.symm;have f5_:=f3_.symm;clear f1_ f2_ f3_;subst f4_;subst f5_))
        refine hK.out _ _ ⟨(blk_cell BK24.1 0).trans rfl,(blk_cell BK2.1 0).trans rfl⟩ (fun hHeld=>?_)
        clear hK K
        refine norm_ (a':=?_) ?_ ?_
        rotate_left
        ·show Act.put _ (some 79) _ = _
         simp only [Act.put,s1_,s2_,s3_,i64_w,i32_w]
         rfl
        refine one_ (i:=3) (N:=some 80) #[true,true,true,true,false] rfl rfl (by kernel_rfl) (by decide) (fun K hK=>?_)
        refine goes_ Try.func21 (by kernel_rfl) rfl #[.agg #[.slice Ao58 t21.length co58],.agg #[.slice Ao309 t36.length co309]] (by rfl) rfl rfl lm_ ?_
        with_reducible refine (laws_eqHeap.calls kj26 _ _ t21 _ _ t36 false _ ?side1 ?side2 ?side3 ?side4 A118.1).mono ?_
        (case side1=>exact cc_ (R_reads' Z25.out).2.2)
        (case side2=>exact (R_reads' Z25.out).2.1)
        (case side3=>exact cc_ (R_reads' HO38.1).2.2)
        (case side4=>exact (R_reads' HO38.1).2.1)
        rintro e w310 ⟨rfl,hb⟩
        refine ⟨_,rfl,?_⟩
        have n0_:=rb_ Z17 hb
        have n1_:=rb_ Z21 hb
        have n2_:=rb_ Z25 hb
        have n3_:=rb_ Z31 hb
        have n4_:=rb_ HO34 hb
        have n5_:=rb_ HO38 hb
        have n6_:=kb_ BK1 hb
        have n7_:=kb_ BK2 hb
        have n8_:=kb_ BK16 hb
        have n9_:=kb_ BK20 hb
        have n10_:=kb_ BK24 hb
        have n11_:=kb_ BK30 hb
        have n12_:=a0_ (below_step hb_ hb)
        clear Z17
        clear Z21
        clear Z25
        clear Z31
        clear HO34
        clear HO38
        clear BK1
        clear BK2
        clear BK16
        clear BK20
        clear BK24
        clear BK30
        clear HB
        have Z17:=n0_
        have Z21:=n1_
        have Z25:=n2_
        have Z31:=n3_
        have HO34:=n4_
        have HO38:=n5_
        have BK1:=n6_
        have BK2:=n7_
        have BK16:=n8_
        have BK20:=n9_
        have BK24:=n10_
        have BK30:=n11_
        have HB:=n12_
        clear n0_ n1_ n2_ n3_ n4_ n5_ n6_ n7_ n8_ n9_ n10_ n11_ n12_
        (try clear hb)
        (try clear hb2)
        (try clear hk)
        (try clear hi)
        refine hK.out _ _ ⟨(blk_cell BK24.1 0).trans rfl,(blk_cell BK2.1 0).trans rfl⟩ (fun hHeld=>?_)
        clear hK K
        refine norm_ (a':=?_) ?_ ?_
        rotate_left
        ·show Act.put _ (some 80) _ = _
         simp only [Act.put,s1_,s2_,s3_,i64_w,i32_w]
         rfl
        refine pure_ (i:=4) (N:=some 81) (v:=?_) (a':=?_) #[true,true,true,true,true] rfl rfl (by kernel_rfl) (fun _ _ _ h=>h) (Or.inl ⟨by rfl,?_⟩) ?_ ?_
        rotate_left
        ·intro w'
         go_simp
         with_reducible rfl
        rotate_left
        ·simp only [Act.put,s1_,s2_,s3_,i64_w,i32_w]
         rfl
        refine done_ (by kernel_rfl) ?_
        try go_wp2
        go_ret
        exact ⟨by first | rfl | (simp [errW_none,errW_some] <;> rfl) | (simp [*,errW_none,errW_some] <;> rfl),hb_⟩
      ·replace c116:=Bool.eq_false_iff.mpr c116
       subst c116
       have H1 : (some false) = some r:=by rw [if_neg (show ¬ (false = true) by decide)] at H;exact H
       clear H
       have H:=H1
       clear H1
       obtain rfl:=Option.some.inj H
       try go_wp2
       have n0_:=a0_ (R_drew Z17.out)
       have n1_:=a0_ (R_drew Z21.out)
       have n2_:=a0_ (R_drew Z25.out)
       have n3_:=a0_ (R_drew Z31.out)
       have n4_:=a0_ (blk_drew BK1.1)
       have n5_:=a0_ (blk_drew BK2.1)
       have n6_:=a0_ (blk_drew BK16.1)
       have n7_:=a0_ (blk_drew BK20.1)
       have n8_:=a0_ (blk_drew BK24.1)
       have n9_:=a0_ (blk_drew BK30.1)
       have n10_:=a0_ (below_drew1 HB.1)
       clear Z17
       clear Z21
       clear Z25
       clear Z31
       clear BK1
       clear BK2
       clear BK16
       clear BK20
       clear BK24
       clear BK30
       clear HB
       have Z17:=n0_
       have Z21:=n1_
       have Z25:=n2_
       have Z31:=n3_
       have BK1:=n4_
       have BK2:=n5_
       have BK16:=n6_
       have BK20:=n7_
       have BK24:=n8_
       have BK30:=n9_
       have HB:=n10_
       clear n0_ n1_ n2_ n3_ n4_ n5_ n6_ n7_ n8_ n9_ n10_
       refine start_ (n:=5) (S:=fun w'=>w'.cell? ⟨gb20,0,none⟩ = some (.slice Ao49 t17.length co49) ∧ w'.cell? ⟨gb1,0,none⟩ = some (.slice A0_0 l0_0.length c0_0)) (ds:=[]) #[false,false,false,false,false] (by kernel_rfl) rfl rfl ⟨(blk_cell BK20.1 0).trans rfl,(blk_cell BK1.1 0).trans rfl⟩ (fun hHeld=>?_)
       generalize wc.drew = w311 at Z17 Z21 Z25 Z31 BK1 BK2 BK16 BK20 BK24 BK30 HB hHeld ⊢
       refine take_ (i:=0) (N:=some 72) (v:=?_) (a':=?_) #[true,false,false,false,false] rfl rfl (by kernel_rfl) (fun _ _ _ h=>h) (Or.inl ⟨by rfl,?_⟩) hHeld ?_ ?_
       rotate_left
       ·rintro w' ⟨s0,s1⟩
        go_simp
        with_reducible rfl
       rotate_left
       ·simp only [Act.put,s1_,s2_,s3_,i64_w,i32_w]
        rfl
       refine take_ (i:=1) (N:=some 73) (v:=?_) (a':=?_) #[true,true,false,false,false] rfl rfl (by kernel_rfl) (fun _ _ _ h=>h) (Or.inl ⟨by rfl,?_⟩) hHeld ?_ ?_
       rotate_left
       ·rintro w' ⟨s0,s1⟩
        go_simp
        with_reducible rfl
       rotate_left
       ·simp only [Act.put,s1_,s2_,s3_,i64_w,i32_w]
        rfl
       refine one_ (i:=2) (N:=some 74) #[true,true,true,false,false] rfl rfl (by kernel_rfl) (by decide) (fun K hK=>?_)
       refine goes_ Try.func17 (by kernel_rfl) rfl #[.agg #[.slice A0_0 l0_0.length c0_0]] (by rfl) rfl rfl lm_ ?_
       with_reducible refine (laws_toTree.calls kj26 _ _ l0_0 t32 _ ?side1 ?side2 A114.1).mono ?_
       (case side1=>exact cc_ (C_below HR0_0.1 HB.1))
       (case side2=>exact HC0_0.1)
       rintro e w312 ⟨v33,rfl,ho0,hb⟩
       refine ⟨_,rfl,?_⟩
       have n0_:=rb_ Z17 hb
       have n1_:=a0_ (R_elder' (rr_ Z21.out) (R_base ho0) hb)
       have n2_:=rb_ Z25 hb
       have n3_:=rb_ Z31 hb
       have n4_:=a0_ (R_lower (R_new' ho0 (R_lt (rr_ Z21.out))) (below_size hb_))
       have n5_:=kb_ BK1 hb
       have n6_:=kb_ BK2 hb
       have n7_:=kb_ BK16 hb
       have n8_:=kb_ BK20 hb
       have n9_:=kb_ BK24 hb
       have n10_:=kb_ BK30 hb
       have n11_:=a0_ (below_step hb_ hb)
       clear Z17
       clear Z21
       clear Z25
       clear Z31
       clear BK1
       clear BK2
       clear BK16
       clear BK20
       clear BK24
       clear BK30
       clear HB
       have Z17:=n0_
       have Z21:=n1_
       have Z25:=n2_
       have Z31:=n3_
       have HO34:=n4_
       have BK1:=n5_
       have BK2:=n6_
       have BK16:=n7_
       have BK20:=n8_
       have BK24:=n9_
       have BK30:=n10_
       have HB:=n11_
       clear n0_ n1_ n2_ n3_ n4_ n5_ n6_ n7_ n8_ n9_ n10_ n11_
       (try clear hb)
       (try clear hb2)
       (try clear hk)
       (try clear hi)
       (try clear ho0)
       obtain ⟨Ao313,co313,eo313⟩:=R_slice HO34.1
       (first | subst eo313 | (injection eo313 with f1_ f2_ f3_;have f4_:=f1_.symm;have f5_:=f3_.symm;clear f1_ f2_ f3_;subst f4_;subst f5_))
       refine hK.out _ _ ⟨(blk_cell BK20.1 0).trans rfl,(blk_cell BK1.1 0).trans rfl⟩ (fun hHeld=>?_)
       clear hK K
       refine norm_ (a':=?_) ?_ ?_
       rotate_left
       ·show Act.put _ (some 74) _ = _
        simp only [Act.put,s1_,s2_,s3_,i64_w,i32_w]
        rfl
       refine one_ (i:=3) (N:=some 75) #[true,true,true,true,false] rfl rfl (by kernel_rfl) (by decide) (fun K hK=>?_)
       refine goes_ Try.func20 (by kernel_rfl) rfl #[.agg #[.slice Ao49 t17.length co49],.agg #[.slice Ao313 t32.length co313]] (by rfl) rfl rfl lm_ ?_
       with_reducible refine (laws_eqTree.calls kj26 _ _ t17 _ _ t32 false _ ?side1 ?side2 ?side3 ?side4 A115.1).mono ?_
       (case side1=>exact cc_ (R_reads' Z21.out).2.2)
       (case side2=>exact (R_reads' Z21.out).2.1)
       (case side3=>exact cc_ (R_reads' HO34.1).2.2)
       (case side4=>exact (R_reads' HO34.1).2.1)
       rintro e w314 ⟨rfl,hb⟩
       refine ⟨_,rfl,?_⟩
       have n0_:=rb_ Z17 hb
       have n1_:=rb_ Z21 hb
       have n2_:=rb_ Z25 hb
       have n3_:=rb_ Z31 hb
       have n4_:=rb_ HO34 hb
       have n5_:=kb_ BK1 hb
       have n6_:=kb_ BK2 hb
       have n7_:=kb_ BK16 hb
       have n8_:=kb_ BK20 hb
       have n9_:=kb_ BK24 hb
       have n10_:=kb_ BK30 hb
       have n11_:=a0_ (below_step hb_ hb)
       clear Z17
       clear Z21
       clear Z25
       clear Z31
       clear HO34
       clear BK1
       clear BK2
       clear BK16
       clear BK20
       clear BK24
       clear BK30
       clear HB
       have Z17:=n0_
       have Z21:=n1_
       have Z25:=n2_
       have Z31:=n3_
       have HO34:=n4_
       have BK1:=n5_
       have BK2:=n6_
       have BK16:=n7_
       have BK20:=n8_
       have BK24:=n9_
       have BK30:=n10_
       have HB:=n11_
       clear n0_ n1_ n2_ n3_ n4_ n5_ n6_ n7_ n8_ n9_ n10_ n11_
       (try clear hb)
       (try clear hb2)
       (try clear hk)
       (try clear hi)
       refine hK.out _ _ ⟨(blk_cell BK20.1 0).trans rfl,(blk_cell BK1.1 0).trans rfl⟩ (fun hHeld=>?_)
       clear hK K
       refine norm_ (a':=?_) ?_ ?_
       rotate_left
       ·show Act.put _ (some 75) _ = _
        simp only [Act.put,s1_,s2_,s3_,i64_w,i32_w]
        rfl
       refine pure_ (i:=4) (N:=some 76) (v:=?_) (a':=?_) #[true,true,true,true,true] rfl rfl (by kernel_rfl) (fun _ _ _ h=>h) (Or.inl ⟨by rfl,?_⟩) ?_ ?_
       rotate_left
       ·intro w'
        go_simp
        with_reducible rfl
       rotate_left
       ·simp only [Act.put,s1_,s2_,s3_,i64_w,i32_w]
        rfl
       refine done_ (by kernel_rfl) ?_
       try go_wp2
       go_ret
       exact ⟨by first | rfl | (simp [errW_none,errW_some] <;> rfl) | (simp [*,errW_none,errW_some] <;> rfl),hb_⟩
end Go.Proofs.Ytfhcfhffmblacaa.P
