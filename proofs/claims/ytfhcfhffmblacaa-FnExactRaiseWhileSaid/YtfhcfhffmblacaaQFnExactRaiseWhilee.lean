/- Texts under the proof of FnExactRaiseWhile: helper words, the functions' contracts and the plain laws. No condition. -/
import Derived.Test.YtfhcfhffmblacaaQFnExactRaiseWhilea
import Derived.Test.YtfhcfhffmblacaaQFnExactRaiseWhileb
import Derived.Test.YtfhcfhffmblacaaQFnExactRaiseWhiled
namespace Go.Proofs.Ytfhcfhffmblacaa.P
open Go.RowKit Go.Proofs.YtfhcfhffmblacaaW.PrintWords Go.Proofs.YtfhcfhffmblacaaW.PrintLast Go.Proofs.YtfhcfhffmblacaaW.PrintMore Go.Proofs.YtfhcfhffmblacaaW.PrintWords.Kd
attribute [local go_sem] max2_int min2_int max_two min_two max_three min_three max_four min_four
set_option linter.unusedVariables false
set_option linter.unusedSimpArgs false
mutual
def laws_FnExactRaiseWhile.j0 : Nat → Int → Int → Bool → Bool → Bool → List (S103) → List (S109) → List (S79) → List (S106) → List (S79) → List (S79) → Option (Bool)
 | 0,_,_,_,_,_,_,_,_,_,_,_=>none
 | k + 1,x2,x3,x11,x15,x61,x2000,x3000,x16000,x20000,x24000,x29000=>if x61 = true then (some false) else ((laws_toTree.f k x2000).bind fun t30=>((laws_eqTree.f k x20000 t30).bind fun t33=>(if t33 = true then ((laws_toHeap.f k x3000).bind fun t34=>((laws_eqHeap.f k x24000 t34).bind fun t37=>(if t37 = true then ((laws_markTree.f k x20000 1).bind fun bt38=>((laws_markHeap.f k x24000 bt38.1).bind fun bt40=>(if bt40.1 < 0 then (laws_FnExactRaiseWhile.j1 k x2 x3 x11 true x2000 x3000 x16000 x29000) else ((laws_eqHeap.f k x29000 x16000).bind fun t42=>(if t42 = true then (laws_FnExactRaiseWhile.j1 k x2 x3 x11 (x15 != x11) x2000 x3000 x16000 x29000) else (laws_FnExactRaiseWhile.j1 k x2 x3 x11 true x2000 x3000 x16000 x29000)))))) else (some false)))) else (some false))))
def laws_FnExactRaiseWhile.j1 : Nat → Int → Int → Bool → Bool → List (S103) → List (S109) → List (S79) → List (S79) → Option (Bool)
 | 0,_,_,_,_,_,_,_,_=>none
 | k + 1,x2,x3,x11,x90,x2000,x3000,x16000,x29000=>if x90 = true then (some false) else ((laws_markHeap.f k x29000 1).bind fun bt43=>((laws_heldHeap.f k bt43.2 1).bind fun t45=>(if t45 < 0 then (some false) else (if t45 = bt43.1 then ((laws_toTree.f k x2000).bind fun t46=>((laws_toHeap.f k x3000).bind fun t49=>((impl_RaiseWhile.f t46 t49 x2 x3).bind fun bt52=>((laws_eqHeap.f k bt52.1 x16000).bind fun t57=>(if t57 = true then (laws_FnExactRaiseWhile.j2 k bt43.1 (bt52.2 != x11) bt43.2) else (laws_FnExactRaiseWhile.j2 k bt43.1 true bt43.2)))))) else (some false)))))
def laws_FnExactRaiseWhile.j2 : Nat → Int → Bool → List (S79) → Option (Bool)
 | 0,_,_,_=>none
 | k + 1,x17,x120,x29000=>if x120 = true then (some false) else ((laws_heldHeap.f k x29000 1).bind fun t58=>(if t58 < 0 then (some false) else (if t58 = x17 then (some true) else (some false))))
end
def laws_FnExactRaiseWhile.f (k : Nat) (l0_0 : List (S103)) (l1_0 : List (S109)) (a2 : Int) (a3 : Int) : Option (Bool):=(laws_szTree.f k l0_0 1048576).bind fun t3=>(if t3 < 0 then (some true) else ((laws_szHeap.f l1_0 t3).bind fun t4=>(if t4 < 0 then (some true) else ((laws_toTree.f k l0_0).bind fun t5=>((laws_toHeap.f k l1_0).bind fun t8=>((spec_RaiseWhile.f k t5 t8 a2 a3).bind fun bt11=>((laws_toTree.f k l0_0).bind fun t16=>((laws_toHeap.f k l1_0).bind fun t20=>((impl_RaiseWhile.f t16 t20 a2 a3).bind fun bt24=>((laws_eqHeap.f k bt24.1 bt11.1).bind fun t29=>(if t29 = true then (laws_FnExactRaiseWhile.j0 k a2 a3 bt11.2 bt24.2 (bt24.2 != bt11.2) l0_0 l1_0 bt11.1 t16 t20 bt24.1) else (laws_FnExactRaiseWhile.j0 k a2 a3 bt11.2 bt24.2 true l0_0 l1_0 bt11.1 t16 t20 bt24.1))))))))))))
theorem laws_FnExactRaiseWhile.mono_l : ∀ k,(∀ y0 y1 y2 y3 y4 y5 y6 y7 y8 y9 y10,LeO (laws_FnExactRaiseWhile.j0 k y0 y1 y2 y3 y4 y5 y6 y7 y8 y9 y10) (laws_FnExactRaiseWhile.j0 (k + 1) y0 y1 y2 y3 y4 y5 y6 y7 y8 y9 y10)) ∧ (∀ y0 y1 y2 y3 y4 y5 y6 y7,LeO (laws_FnExactRaiseWhile.j1 k y0 y1 y2 y3 y4 y5 y6 y7) (laws_FnExactRaiseWhile.j1 (k + 1) y0 y1 y2 y3 y4 y5 y6 y7)) ∧ (∀ y0 y1 y2,LeO (laws_FnExactRaiseWhile.j2 k y0 y1 y2) (laws_FnExactRaiseWhile.j2 (k + 1) y0 y1 y2))
 | 0=>⟨fun _ _ _ _ _ _ _ _ _ _ _ r h=>by simp [laws_FnExactRaiseWhile.j0] at h,fun _ _ _ _ _ _ _ _ r h=>by simp [laws_FnExactRaiseWhile.j1] at h,fun _ _ _ r h=>by simp [laws_FnExactRaiseWhile.j2] at h⟩
 | k + 1=>by
  obtain ⟨ih0,ih1,ih2⟩:=laws_FnExactRaiseWhile.mono_l k
  refine ⟨?_,?_,?_⟩
  ·intro y0 y1 y2 y3 y4 y5 y6 y7 y8 y9 y10
   unfold laws_FnExactRaiseWhile.j0
   repeat' first
   | (with_reducible exact ih0 _ _ _ _ _ _ _ _ _ _ _)
   | (with_reducible exact ih1 _ _ _ _ _ _ _ _)
   | (with_reducible exact ih2 _ _ _)
   | (with_reducible exact laws_eqHeap.mono _ _ _)
   | (with_reducible exact laws_eqTree.mono _ _ _)
   | (with_reducible exact laws_heldHeap.mono _ _ _)
   | (with_reducible exact laws_markHeap.mono _ _ _)
   | (with_reducible exact laws_markTree.mono _ _ _)
   | (with_reducible exact laws_szTree.mono _ _ _)
   | (with_reducible exact laws_toHeap.mono _ _)
   | (with_reducible exact laws_toTree.mono _ _)
   | (with_reducible exact spec_RaiseWhile.mono _ _ _ _ _)
   | (with_reducible exact LeO.refl _)
   | (with_reducible exact LeO.none _)
   | (with_reducible refine LeO.ite ?_ ?_)
   | (with_reducible refine LeO.bind ?_ (fun _=>?_))
   | exact ih0 _ _ _ _ _ _ _ _ _ _ _
   | exact ih1 _ _ _ _ _ _ _ _
   | exact ih2 _ _ _
   | exact laws_eqHeap.mono _ _ _
   | exact laws_eqTree.mono _ _ _
   | exact laws_heldHeap.mono _ _ _
   | exact laws_markHeap.mono _ _ _
   | exact laws_markTree.mono _ _ _
   | exact laws_szTree.mono _ _ _
   | exact laws_toHeap.mono _ _
   | exact laws_toTree.mono _ _
   | exact spec_RaiseWhile.mono _ _ _ _ _
   | exact LeO.none _
   | refine LeO.ite ?_ ?_
   | refine LeO.bind ?_ (fun _=>?_)
  ·intro y0 y1 y2 y3 y4 y5 y6 y7
   unfold laws_FnExactRaiseWhile.j1
   repeat' first
   | (with_reducible exact ih0 _ _ _ _ _ _ _ _ _ _ _)
   | (with_reducible exact ih1 _ _ _ _ _ _ _ _)
   | (with_reducible exact ih2 _ _ _)
   | (with_reducible exact laws_eqHeap.mono _ _ _)
   | (with_reducible exact laws_eqTree.mono _ _ _)
   | (with_reducible exact laws_heldHeap.mono _ _ _)
   | (with_reducible exact laws_markHeap.mono _ _ _)
   | (with_reducible exact laws_markTree.mono _ _ _)
   | (with_reducible exact laws_szTree.mono _ _ _)
   | (with_reducible exact laws_toHeap.mono _ _)
   | (with_reducible exact laws_toTree.mono _ _)
   | (with_reducible exact spec_RaiseWhile.mono _ _ _ _ _)
   | (with_reducible exact LeO.refl _)
   | (with_reducible exact LeO.none _)
   | (with_reducible refine LeO.ite ?_ ?_)
   | (with_reducible refine LeO.bind ?_ (fun _=>?_))
   | exact ih0 _ _ _ _ _ _ _ _ _ _ _
   | exact ih1 _ _ _ _ _ _ _ _
   | exact ih2 _ _ _
   | exact laws_eqHeap.mono _ _ _
   | exact laws_eqTree.mono _ _ _
   | exact laws_heldHeap.mono _ _ _
   | exact laws_markHeap.mono _ _ _
   | exact laws_markTree.mono _ _ _
   | exact laws_szTree.mono _ _ _
   | exact laws_toHeap.mono _ _
   | exact laws_toTree.mono _ _
   | exact spec_RaiseWhile.mono _ _ _ _ _
   | exact LeO.none _
   | refine LeO.ite ?_ ?_
   | refine LeO.bind ?_ (fun _=>?_)
  ·intro y0 y1 y2
   unfold laws_FnExactRaiseWhile.j2
   repeat' first
   | (with_reducible exact ih0 _ _ _ _ _ _ _ _ _ _ _)
   | (with_reducible exact ih1 _ _ _ _ _ _ _ _)
   | (with_reducible exact ih2 _ _ _)
   | (with_reducible exact laws_eqHeap.mono _ _ _)
   | (with_reducible exact laws_eqTree.mono _ _ _)
   | (with_reducible exact laws_heldHeap.mono _ _ _)
   | (with_reducible exact laws_markHeap.mono _ _ _)
   | (with_reducible exact laws_markTree.mono _ _ _)
   | (with_reducible exact laws_szTree.mono _ _ _)
   | (with_reducible exact laws_toHeap.mono _ _)
   | (with_reducible exact laws_toTree.mono _ _)
   | (with_reducible exact spec_RaiseWhile.mono _ _ _ _ _)
   | (with_reducible exact LeO.refl _)
   | (with_reducible exact LeO.none _)
   | (with_reducible refine LeO.ite ?_ ?_)
   | (with_reducible refine LeO.bind ?_ (fun _=>?_))
   | exact ih0 _ _ _ _ _ _ _ _ _ _ _
   | exact ih1 _ _ _ _ _ _ _ _
   | exact ih2 _ _ _
   | exact laws_eqHeap.mono _ _ _
   | exact laws_eqTree.mono _ _ _
   | exact laws_heldHeap.mono _ _ _
   | exact laws_markHeap.mono _ _ _
   | exact laws_markTree.mono _ _ _
   | exact laws_szTree.mono _ _ _
   | exact laws_toHeap.mono _ _
   | exact laws_toTree.mono _ _
   | exact spec_RaiseWhile.mono _ _ _ _ _
   | exact LeO.none _
   | refine LeO.ite ?_ ?_
   | refine LeO.bind ?_ (fun _=>?_)
theorem laws_FnExactRaiseWhile.mono : ∀ a0 a1 a2 a3 k,LeO (laws_FnExactRaiseWhile.f k a0 a1 a2 a3) (laws_FnExactRaiseWhile.f (k + 1) a0 a1 a2 a3):=by
 intro a0 a1 a2 a3 k
 obtain ⟨ih0,ih1,ih2⟩:=laws_FnExactRaiseWhile.mono_l k
 unfold laws_FnExactRaiseWhile.f
 repeat' first
   | (with_reducible exact ih0 _ _ _ _ _ _ _ _ _ _ _)
   | (with_reducible exact ih1 _ _ _ _ _ _ _ _)
   | (with_reducible exact ih2 _ _ _)
   | (with_reducible exact laws_eqHeap.mono _ _ _)
   | (with_reducible exact laws_eqTree.mono _ _ _)
   | (with_reducible exact laws_heldHeap.mono _ _ _)
   | (with_reducible exact laws_markHeap.mono _ _ _)
   | (with_reducible exact laws_markTree.mono _ _ _)
   | (with_reducible exact laws_szTree.mono _ _ _)
   | (with_reducible exact laws_toHeap.mono _ _)
   | (with_reducible exact laws_toTree.mono _ _)
   | (with_reducible exact spec_RaiseWhile.mono _ _ _ _ _)
   | (with_reducible exact LeO.refl _)
   | (with_reducible exact LeO.none _)
   | (with_reducible refine LeO.ite ?_ ?_)
   | (with_reducible refine LeO.bind ?_ (fun _=>?_))
   | exact ih0 _ _ _ _ _ _ _ _ _ _ _
   | exact ih1 _ _ _ _ _ _ _ _
   | exact ih2 _ _ _
   | exact laws_eqHeap.mono _ _ _
   | exact laws_eqTree.mono _ _ _
   | exact laws_heldHeap.mono _ _ _
   | exact laws_markHeap.mono _ _ _
   | exact laws_markTree.mono _ _ _
   | exact laws_szTree.mono _ _ _
   | exact laws_toHeap.mono _ _
   | exact laws_toTree.mono _ _
   | exact spec_RaiseWhile.mono _ _ _ _ _
   | exact LeO.none _
   | refine LeO.ite ?_ ?_
   | refine LeO.bind ?_ (fun _=>?_)
def laws_FnExactRaiseWhile.T8 : Bool × List (List Nat × List Nat):=(true,[([],[]),([0],[0]),([],[]),([2,1],[2]),([],[]),([],[]),([1,3,4,5,3],[1,3,4,5]),([6],[6]),([7],[7]),([7],[7]),([],[]),([10,8,6,0,1,2,3,4,5,6,7,8,10],[8,10]),([9,11,0,1,2,3,4,5,6,7,8,9,10,11],[9])])
def laws_FnExactRaiseWhile.B8 : List Nat:=[0,1,0,7,0,0,63,127,255,255,0,1535,4095]
theorem laws_FnExactRaiseWhile.tab8 : rtab .any (opsOf Try.f11 8) = laws_FnExactRaiseWhile.T8:=by kernel_rfl
theorem laws_FnExactRaiseWhile.bits8 : waitsOk laws_FnExactRaiseWhile.T8.2 laws_FnExactRaiseWhile.B8 = true:=by kernel_rfl
def laws_FnExactRaiseWhile.T31 : Bool × List (List Nat × List Nat):=(true,[([],[]),([0],[0]),([],[]),([2,1],[2]),([],[]),([],[]),([1,3,4,5,3],[1,3,4,5]),([6],[6]),([7],[7]),([7],[7]),([],[]),([10,8,6,0,1,2,3,4,5,6,7,8,10],[8,10]),([9,11,0,1,2,3,4,5,6,7,8,9,10,11],[9])])
def laws_FnExactRaiseWhile.B31 : List Nat:=[0,1,0,7,0,0,63,127,255,255,0,1535,4095]
theorem laws_FnExactRaiseWhile.tab31 : rtab .any (opsOf Try.f11 31) = laws_FnExactRaiseWhile.T31:=by kernel_rfl
theorem laws_FnExactRaiseWhile.bits31 : waitsOk laws_FnExactRaiseWhile.T31.2 laws_FnExactRaiseWhile.B31 = true:=by kernel_rfl
set_option maxHeartbeats 8000000 in
set_option maxRecDepth 100000 in
theorem laws_FnExactRaiseWhile.calls (k : Nat) (A0_0 : Option Addr) (c0_0 : Nat) (l0_0 : List (S103)) (A1_0 : Option Addr) (c1_0 : Nat) (l1_0 : List (S109)) (a2 : Int) (a3 : Int) (r : Bool) (w : World) (hr0_0 : Kd.C k103 w A0_0 l0_0.length l0_0) (hc0_0 : l0_0.length ≤ c0_0) (hr1_0 : Kd.C k109 w A1_0 l1_0.length l1_0) (hc1_0 : l1_0.length ≤ c1_0) (h : laws_FnExactRaiseWhile.f k l0_0 l1_0 a2 a3 = some r) :
  Calls Try.prog 11 #[.agg #[.slice A0_0 l0_0.length c0_0],.agg #[.slice A1_0 l1_0.length c1_0],.int .i64 a2,.int .i64 a3] w fun e w'=>e = .returned (.bool r) ∧ Below w.heap.size w w':=by
 have hu24:=Try.underlying24
 have hu27:=Try.underlying27
 have hu37:=Try.underlying37
 have hu33:=Try.underlying33
 have HR0_0:=a0_ hr0_0
 have HC0_0:=a0_ hc0_0
 clear hr0_0 hc0_0
 have HR1_0:=a0_ hr1_0
 have HC1_0:=a0_ hc1_0
 clear hr1_0 hc1_0
 have HB:=a0_ (Below.refl w.heap.size w)
 have H : ((laws_szTree.f k l0_0 1048576).bind fun t3=>(if t3 < 0 then (some true) else ((laws_szHeap.f l1_0 t3).bind fun t4=>(if t4 < 0 then (some true) else ((laws_toTree.f k l0_0).bind fun t5=>((laws_toHeap.f k l1_0).bind fun t8=>((spec_RaiseWhile.f k t5 t8 a2 a3).bind fun bt11=>((laws_toTree.f k l0_0).bind fun t16=>((laws_toHeap.f k l1_0).bind fun t20=>((impl_RaiseWhile.f t16 t20 a2 a3).bind fun bt24=>((laws_eqHeap.f k bt24.1 bt11.1).bind fun t29=>(if t29 = true then (laws_FnExactRaiseWhile.j0 k a2 a3 bt11.2 bt24.2 (bt24.2 != bt11.2) l0_0 l1_0 bt11.1 t16 t20 bt24.1) else (laws_FnExactRaiseWhile.j0 k a2 a3 bt11.2 bt24.2 true l0_0 l1_0 bt11.1 t16 t20 bt24.1))))))))))))) = some r:=h
 clear h
 replace H:=Option.bind_eq_some_iff.mp H
 obtain ⟨t3,A50,H⟩:=H
 replace H : (if t3 < 0 then (some true) else ((laws_szHeap.f l1_0 t3).bind fun t4=>(if t4 < 0 then (some true) else ((laws_toTree.f k l0_0).bind fun t5=>((laws_toHeap.f k l1_0).bind fun t8=>((spec_RaiseWhile.f k t5 t8 a2 a3).bind fun bt11=>((laws_toTree.f k l0_0).bind fun t16=>((laws_toHeap.f k l1_0).bind fun t20=>((impl_RaiseWhile.f t16 t20 a2 a3).bind fun bt24=>((laws_eqHeap.f k bt24.1 bt11.1).bind fun t29=>(if t29 = true then (laws_FnExactRaiseWhile.j0 k a2 a3 bt11.2 bt24.2 (bt24.2 != bt11.2) l0_0 l1_0 bt11.1 t16 t20 bt24.1) else (laws_FnExactRaiseWhile.j0 k a2 a3 bt11.2 bt24.2 true l0_0 l1_0 bt11.1 t16 t20 bt24.1)))))))))))) = some r:=H
 have A5:=a0_ A50
 clear A50
 by_cases c6 : t3 < 0
 ·rw [if_pos c6] at H
  have c6b0 : decide (t3 < 0) = true:=decide_eq_true c6
  clear c6
  obtain rfl:=Option.some.inj H
  go_enter Try.func11,Try.ntmps11
  go_wp2_with (first | ((with_reducible refine gate_dst (N:=4) rfl ?_);refine box_event ?hg (N:=4) ?hd (cs:=#[.slice A0_0 l0_0.length c0_0]) (t:=24) ?hr ?_;(case hd=>rfl);(case hg=>rfl);(case hr=>first | (go_simp;done) | (go_simp;rfl));intro gb1 hg w7 hbox hb;have BK1:=a0_ (hbox);have GW1:=a0_ ((by rw [hg];exact (below_size hb_) : w.heap.size ≤ gb1));have GE1:=a0_ ((by rw [hg];exact (below_size hb_) : w.heap.size ≤ gb1));replace HB:=a0_ (below_step hb_ hb);clear hb hbox hg) | ((with_reducible refine gate_dst (N:=5) rfl ?_);refine box_event ?hg (N:=5) ?hd (cs:=#[.slice A1_0 l1_0.length c1_0]) (t:=27) ?hr ?_;(case hd=>rfl);(case hg=>rfl);(case hr=>first | (go_simp;done) | (go_simp;rfl));intro gb2 hg w8 hbox hb;have n0_:=kb_ BK1 hb;have n1_:=a0_ (below_step hb_ hb);have n2_:=a0_ (hbox);have n3_:=a0_ ((by rw [hg];exact (below_size hb_) : w.heap.size ≤ gb2));have n4_:=a0_ ((by rw [hg];exact (below_size hb_) : w.heap.size ≤ gb2));have n5_:=a0_ ((by rw [hg];exact Nat.ne_of_lt (blk_lt (bb_ BK1.1)) : gb1 ≠ gb2));have n6_:=a0_ ((by rw [hg];exact Nat.ne_of_gt (blk_lt (bb_ BK1.1)) : gb2 ≠ gb1));clear BK1 HB;have BK1:=n0_;have HB:=n1_;have BK2:=n2_;have GW2:=n3_;have GE2:=n4_;have NB1_2:=n5_;have NB2_1:=n6_;clear n0_ n1_ n2_ n3_ n4_ n5_ n6_;clear hb hbox hg;have hnb9:=NB1_2.1;have hnc9:=NB2_1.1;have hcz10_0 : w8.cell? ⟨gb1,0,none⟩ = some (.slice A0_0 l0_0.length c0_0):=(blk_cell BK1.1 0).trans rfl;have hfz10_0:=blk_frozen BK1.1 0) | ((with_reducible refine gate_callee (f:=14) rfl ?_);refine goesL_ (some 23) rfl rfl Try.func14 (by kernel_rfl) rfl #[.agg #[.slice A0_0 l0_0.length c0_0],.int .i64 1048576] rfl lm_ ?_;(with_reducible refine (laws_szTree.calls k _ _ l0_0 1048576 t3 _ ?side1 ?side2 A5.1).mono ?_);(case side1=>exact cc_ (C_below HR0_0.1 HB.1));(case side2=>exact HC0_0.1);rintro e w11 ⟨rfl,hb⟩;refine ⟨_,rfl,?_⟩;replace BK1:=kb_ BK1 hb;replace BK2:=kb_ BK2 hb;replace HB:=a0_ (below_step hb_ hb);(try clear hb);(try clear hb2);(try clear hk);(try clear hi)))
  go_ret
  exact ⟨by first | rfl | (simp [errW_none,errW_some] <;> rfl) | (simp [*,errW_none,errW_some] <;> rfl),hb_⟩
 ·rw [if_neg c6] at H
  have c6b0 : decide (t3 < 0) = false:=decide_eq_false c6
  clear c6
  replace H:=Option.bind_eq_some_iff.mp H
  obtain ⟨t4,A120,H⟩:=H
  replace H : (if t4 < 0 then (some true) else ((laws_toTree.f k l0_0).bind fun t5=>((laws_toHeap.f k l1_0).bind fun t8=>((spec_RaiseWhile.f k t5 t8 a2 a3).bind fun bt11=>((laws_toTree.f k l0_0).bind fun t16=>((laws_toHeap.f k l1_0).bind fun t20=>((impl_RaiseWhile.f t16 t20 a2 a3).bind fun bt24=>((laws_eqHeap.f k bt24.1 bt11.1).bind fun t29=>(if t29 = true then (laws_FnExactRaiseWhile.j0 k a2 a3 bt11.2 bt24.2 (bt24.2 != bt11.2) l0_0 l1_0 bt11.1 t16 t20 bt24.1) else (laws_FnExactRaiseWhile.j0 k a2 a3 bt11.2 bt24.2 true l0_0 l1_0 bt11.1 t16 t20 bt24.1)))))))))) = some r:=H
  have A12:=a0_ A120
  clear A120
  by_cases c13 : t4 < 0
  ·rw [if_pos c13] at H
   have c13b0 : decide (t4 < 0) = true:=decide_eq_true c13
   clear c13
   obtain rfl:=Option.some.inj H
   go_enter Try.func11,Try.ntmps11
   go_wp2_with (first | ((with_reducible refine gate_dst (N:=4) rfl ?_);refine box_event ?hg (N:=4) ?hd (cs:=#[.slice A0_0 l0_0.length c0_0]) (t:=24) ?hr ?_;(case hd=>rfl);(case hg=>rfl);(case hr=>first | (go_simp;done) | (go_simp;rfl));intro gb1 hg w14 hbox hb;have BK1:=a0_ (hbox);have GW1:=a0_ ((by rw [hg];exact (below_size hb_) : w.heap.size ≤ gb1));have GE1:=a0_ ((by rw [hg];exact (below_size hb_) : w.heap.size ≤ gb1));replace HB:=a0_ (below_step hb_ hb);clear hb hbox hg) | ((with_reducible refine gate_dst (N:=5) rfl ?_);refine box_event ?hg (N:=5) ?hd (cs:=#[.slice A1_0 l1_0.length c1_0]) (t:=27) ?hr ?_;(case hd=>rfl);(case hg=>rfl);(case hr=>first | (go_simp;done) | (go_simp;rfl));intro gb2 hg w15 hbox hb;have n0_:=kb_ BK1 hb;have n1_:=a0_ (below_step hb_ hb);have n2_:=a0_ (hbox);have n3_:=a0_ ((by rw [hg];exact (below_size hb_) : w.heap.size ≤ gb2));have n4_:=a0_ ((by rw [hg];exact (below_size hb_) : w.heap.size ≤ gb2));have n5_:=a0_ ((by rw [hg];exact Nat.ne_of_lt (blk_lt (bb_ BK1.1)) : gb1 ≠ gb2));have n6_:=a0_ ((by rw [hg];exact Nat.ne_of_gt (blk_lt (bb_ BK1.1)) : gb2 ≠ gb1));clear BK1 HB;have BK1:=n0_;have HB:=n1_;have BK2:=n2_;have GW2:=n3_;have GE2:=n4_;have NB1_2:=n5_;have NB2_1:=n6_;clear n0_ n1_ n2_ n3_ n4_ n5_ n6_;clear hb hbox hg;have hnb16:=NB1_2.1;have hnc16:=NB2_1.1;have hcz17_0 : w15.cell? ⟨gb1,0,none⟩ = some (.slice A0_0 l0_0.length c0_0):=(blk_cell BK1.1 0).trans rfl;have hfz17_0:=blk_frozen BK1.1 0) | ((with_reducible refine gate_callee (f:=14) rfl ?_);refine goesL_ (some 23) rfl rfl Try.func14 (by kernel_rfl) rfl #[.agg #[.slice A0_0 l0_0.length c0_0],.int .i64 1048576] rfl lm_ ?_;(with_reducible refine (laws_szTree.calls k _ _ l0_0 1048576 t3 _ ?side1 ?side2 A5.1).mono ?_);(case side1=>exact cc_ (C_below HR0_0.1 HB.1));(case side2=>exact HC0_0.1);rintro e w18 ⟨rfl,hb⟩;refine ⟨_,rfl,?_⟩;replace BK1:=kb_ BK1 hb;replace BK2:=kb_ BK2 hb;replace HB:=a0_ (below_step hb_ hb);(try clear hb);have hcz19_0 : w18.cell? ⟨gb2,0,none⟩ = some (.slice A1_0 l1_0.length c1_0):=(blk_cell BK2.1 0).trans rfl;have hfz19_0:=blk_frozen BK2.1 0) | ((with_reducible refine gate_callee (f:=15) rfl ?_);refine goesL_ (some 28) rfl rfl Try.func15 (by kernel_rfl) rfl #[.agg #[.slice A1_0 l1_0.length c1_0],.int .i64 t3] rfl lm_ ?_;(with_reducible refine (laws_szHeap.calls _ _ l1_0 t3 t4 _ ?side1 ?side2 A12.1).mono ?_);(case side1=>exact cc_ (C_below HR1_0.1 HB.1));(case side2=>exact HC1_0.1);rintro e w20 ⟨rfl,hb⟩;refine ⟨_,rfl,?_⟩;replace BK1:=kb_ BK1 hb;replace BK2:=kb_ BK2 hb;replace HB:=a0_ (below_step hb_ hb);(try clear hb);(try clear hb2);(try clear hk);(try clear hi)))
   go_ret
   exact ⟨by first | rfl | (simp [errW_none,errW_some] <;> rfl) | (simp [*,errW_none,errW_some] <;> rfl),hb_⟩
  ·rw [if_neg c13] at H
   have c13b0 : decide (t4 < 0) = false:=decide_eq_false c13
   clear c13
   replace H:=Option.bind_eq_some_iff.mp H
   obtain ⟨t5,A210,H⟩:=H
   replace H : ((laws_toHeap.f k l1_0).bind fun t8=>((spec_RaiseWhile.f k t5 t8 a2 a3).bind fun bt11=>((laws_toTree.f k l0_0).bind fun t16=>((laws_toHeap.f k l1_0).bind fun t20=>((impl_RaiseWhile.f t16 t20 a2 a3).bind fun bt24=>((laws_eqHeap.f k bt24.1 bt11.1).bind fun t29=>(if t29 = true then (laws_FnExactRaiseWhile.j0 k a2 a3 bt11.2 bt24.2 (bt24.2 != bt11.2) l0_0 l1_0 bt11.1 t16 t20 bt24.1) else (laws_FnExactRaiseWhile.j0 k a2 a3 bt11.2 bt24.2 true l0_0 l1_0 bt11.1 t16 t20 bt24.1)))))))) = some r:=H
   have A21:=a0_ A210
   clear A210
   replace H:=Option.bind_eq_some_iff.mp H
   obtain ⟨t8,A220,H⟩:=H
   replace H : ((spec_RaiseWhile.f k t5 t8 a2 a3).bind fun bt11=>((laws_toTree.f k l0_0).bind fun t16=>((laws_toHeap.f k l1_0).bind fun t20=>((impl_RaiseWhile.f t16 t20 a2 a3).bind fun bt24=>((laws_eqHeap.f k bt24.1 bt11.1).bind fun t29=>(if t29 = true then (laws_FnExactRaiseWhile.j0 k a2 a3 bt11.2 bt24.2 (bt24.2 != bt11.2) l0_0 l1_0 bt11.1 t16 t20 bt24.1) else (laws_FnExactRaiseWhile.j0 k a2 a3 bt11.2 bt24.2 true l0_0 l1_0 bt11.1 t16 t20 bt24.1))))))) = some r:=H
   have A22:=a0_ A220
   clear A220
   replace H:=Option.bind_eq_some_iff.mp H
   obtain ⟨⟨t11,t14⟩,A230,H⟩:=H
   replace H : ((laws_toTree.f k l0_0).bind fun t16=>((laws_toHeap.f k l1_0).bind fun t20=>((impl_RaiseWhile.f t16 t20 a2 a3).bind fun bt24=>((laws_eqHeap.f k bt24.1 t11).bind fun t29=>(if t29 = true then (laws_FnExactRaiseWhile.j0 k a2 a3 t14 bt24.2 (bt24.2 != t14) l0_0 l1_0 t11 t16 t20 bt24.1) else (laws_FnExactRaiseWhile.j0 k a2 a3 t14 bt24.2 true l0_0 l1_0 t11 t16 t20 bt24.1)))))) = some r:=H
   have A23:=a0_ A230
   clear A230
   replace H:=Option.bind_eq_some_iff.mp H
   obtain ⟨t16,A240,H⟩:=H
   replace H : ((laws_toHeap.f k l1_0).bind fun t20=>((impl_RaiseWhile.f t16 t20 a2 a3).bind fun bt24=>((laws_eqHeap.f k bt24.1 t11).bind fun t29=>(if t29 = true then (laws_FnExactRaiseWhile.j0 k a2 a3 t14 bt24.2 (bt24.2 != t14) l0_0 l1_0 t11 t16 t20 bt24.1) else (laws_FnExactRaiseWhile.j0 k a2 a3 t14 bt24.2 true l0_0 l1_0 t11 t16 t20 bt24.1))))) = some r:=H
   have A24:=a0_ A240
   clear A240
   replace H:=Option.bind_eq_some_iff.mp H
   obtain ⟨t20,A250,H⟩:=H
   replace H : ((impl_RaiseWhile.f t16 t20 a2 a3).bind fun bt24=>((laws_eqHeap.f k bt24.1 t11).bind fun t29=>(if t29 = true then (laws_FnExactRaiseWhile.j0 k a2 a3 t14 bt24.2 (bt24.2 != t14) l0_0 l1_0 t11 t16 t20 bt24.1) else (laws_FnExactRaiseWhile.j0 k a2 a3 t14 bt24.2 true l0_0 l1_0 t11 t16 t20 bt24.1)))) = some r:=H
   have A25:=a0_ A250
   clear A250
   replace H:=Option.bind_eq_some_iff.mp H
   obtain ⟨⟨t24,t27⟩,A260,H⟩:=H
   replace H : ((laws_eqHeap.f k t24 t11).bind fun t29=>(if t29 = true then (laws_FnExactRaiseWhile.j0 k a2 a3 t14 t27 (t27 != t14) l0_0 l1_0 t11 t16 t20 t24) else (laws_FnExactRaiseWhile.j0 k a2 a3 t14 t27 true l0_0 l1_0 t11 t16 t20 t24))) = some r:=H
   have A26:=a0_ A260
   clear A260
   have HC27:=a0_ H
   clear H
   go_enter Try.func11,Try.ntmps11
   try go_wp2_with (first | ((with_reducible refine gate_dst (N:=4) rfl ?_);refine box_event ?hg (N:=4) ?hd (cs:=#[.slice A0_0 l0_0.length c0_0]) (t:=24) ?hr ?_;(case hd=>rfl);(case hg=>rfl);(case hr=>first | (go_simp;done) | (go_simp;rfl));intro gb1 hg w28 hbox hb;have BK1:=a0_ (hbox);have GW1:=a0_ ((by rw [hg];exact (below_size hb_) : w.heap.size ≤ gb1));have GE1:=a0_ ((by rw [hg];exact (below_size hb_) : w.heap.size ≤ gb1));replace HB:=a0_ (below_step hb_ hb);clear hb hbox hg) | ((with_reducible refine gate_dst (N:=5) rfl ?_);refine box_event ?hg (N:=5) ?hd (cs:=#[.slice A1_0 l1_0.length c1_0]) (t:=27) ?hr ?_;(case hd=>rfl);(case hg=>rfl);(case hr=>first | (go_simp;done) | (go_simp;rfl));intro gb2 hg w29 hbox hb;have n0_:=kb_ BK1 hb;have n1_:=a0_ (below_step hb_ hb);have n2_:=a0_ (hbox);have n3_:=a0_ ((by rw [hg];exact (below_size hb_) : w.heap.size ≤ gb2));have n4_:=a0_ ((by rw [hg];exact (below_size hb_) : w.heap.size ≤ gb2));have n5_:=a0_ ((by rw [hg];exact Nat.ne_of_lt (blk_lt (bb_ BK1.1)) : gb1 ≠ gb2));have n6_:=a0_ ((by rw [hg];exact Nat.ne_of_gt (blk_lt (bb_ BK1.1)) : gb2 ≠ gb1));clear BK1 HB;have BK1:=n0_;have HB:=n1_;have BK2:=n2_;have GW2:=n3_;have GE2:=n4_;have NB1_2:=n5_;have NB2_1:=n6_;clear n0_ n1_ n2_ n3_ n4_ n5_ n6_;clear hb hbox hg;have hnb30:=NB1_2.1;have hnc30:=NB2_1.1;have hcz31_0 : w29.cell? ⟨gb1,0,none⟩ = some (.slice A0_0 l0_0.length c0_0):=(blk_cell BK1.1 0).trans rfl;have hfz31_0:=blk_frozen BK1.1 0) | ((with_reducible refine gate_callee (f:=14) rfl ?_);refine goesL_ (some 23) rfl rfl Try.func14 (by kernel_rfl) rfl #[.agg #[.slice A0_0 l0_0.length c0_0],.int .i64 1048576] rfl lm_ ?_;(with_reducible refine (laws_szTree.calls k _ _ l0_0 1048576 t3 _ ?side1 ?side2 A5.1).mono ?_);(case side1=>exact cc_ (C_below HR0_0.1 HB.1));(case side2=>exact HC0_0.1);rintro e w32 ⟨rfl,hb⟩;refine ⟨_,rfl,?_⟩;replace BK1:=kb_ BK1 hb;replace BK2:=kb_ BK2 hb;replace HB:=a0_ (below_step hb_ hb);(try clear hb);have hcz33_0 : w32.cell? ⟨gb2,0,none⟩ = some (.slice A1_0 l1_0.length c1_0):=(blk_cell BK2.1 0).trans rfl;have hfz33_0:=blk_frozen BK2.1 0) | ((with_reducible refine gate_callee (f:=15) rfl ?_);refine goesL_ (some 28) rfl rfl Try.func15 (by kernel_rfl) rfl #[.agg #[.slice A1_0 l1_0.length c1_0],.int .i64 t3] rfl lm_ ?_;(with_reducible refine (laws_szHeap.calls _ _ l1_0 t3 t4 _ ?side1 ?side2 A12.1).mono ?_);(case side1=>exact cc_ (C_below HR1_0.1 HB.1));(case side2=>exact HC1_0.1);rintro e w34 ⟨rfl,hb⟩;refine ⟨_,rfl,?_⟩;replace BK1:=kb_ BK1 hb;replace BK2:=kb_ BK2 hb;replace HB:=a0_ (below_step hb_ hb);(try clear hb);(try clear hb2);(try clear hk);(try clear hi)))
   have n0_:=a0_ (blk_drew BK1.1)
   have n1_:=a0_ (blk_drew BK2.1)
   have n2_:=a0_ (below_drew1 HB.1)
   clear BK1
   clear BK2
   clear HB
   have BK1:=n0_
   have BK2:=n1_
   have HB:=n2_
   clear n0_ n1_ n2_
   refine start_ (n:=13) (S:=fun w'=>w'.cell? ⟨gb1,0,none⟩ = some (.slice A0_0 l0_0.length c0_0) ∧ w'.cell? ⟨gb2,0,none⟩ = some (.slice A1_0 l1_0.length c1_0)) (ds:=[]) #[false,false,false,false,false,false,false,false,false,false,false,false,false] (by kernel_rfl) rfl rfl ⟨(blk_cell BK1.1 0).trans rfl,(blk_cell BK2.1 0).trans rfl⟩ (fun hHeld=>?_);refine with_tabW laws_FnExactRaiseWhile.tab8 laws_FnExactRaiseWhile.bits8 (fun HT_ HW_=>?_)
   generalize w34.drew = w35 at BK1 BK2 HB hHeld ⊢
   refine pure_ (i:=4) (N:=some 36) (v:=?_) (a':=?_) #[false,false,false,false,true,false,false,false,false,false,false,false,false] rfl rfl (any_of HT_.out (by kernel_rfl)) (fun _ _ _ h=>h) (Or.inl ⟨by rfl,?_⟩) ?_ ?_
   rotate_left
   ·intro w'
    go_simp
    with_reducible rfl
   rotate_left
   ·simp only [Act.put,s1_,s2_,s3_,i64_w,i32_w]
    rfl
   refine pure_ (i:=5) (N:=some 37) (v:=?_) (a':=?_) #[false,false,false,false,true,true,false,false,false,false,false,false,false] rfl rfl (any_of HT_.out (by kernel_rfl)) (fun _ _ _ h=>h) (Or.inl ⟨by rfl,?_⟩) ?_ ?_
   rotate_left
   ·intro w'
    go_simp
    with_reducible rfl
   rotate_left
   ·simp only [Act.put,s1_,s2_,s3_,i64_w,i32_w]
    rfl
   refine take_ (i:=0) (N:=some 32) (v:=?_) (a':=?_) #[true,false,false,false,true,true,false,false,false,false,false,false,false] rfl rfl (take_ofW HT_.out HW_.out (by kernel_rfl)) (fun _ _ _ h=>h) (Or.inl ⟨by rfl,?_⟩) hHeld ?_ ?_
   rotate_left
   ·rintro w' ⟨s0,s1⟩
    go_simp
    with_reducible rfl
   rotate_left
   ·simp only [Act.put,s1_,s2_,s3_,i64_w,i32_w]
    rfl
   refine take_ (i:=2) (N:=some 34) (v:=?_) (a':=?_) #[true,false,true,false,true,true,false,false,false,false,false,false,false] rfl rfl (take_ofW HT_.out HW_.out (by kernel_rfl)) (fun _ _ _ h=>h) (Or.inl ⟨by rfl,?_⟩) hHeld ?_ ?_
   rotate_left
   ·rintro w' ⟨s0,s1⟩
    go_simp
    with_reducible rfl
   rotate_left
   ·simp only [Act.put,s1_,s2_,s3_,i64_w,i32_w]
    rfl
   refine join_ (σ:=Value × Value × Value × Nat) 2 #[true,true,true,true,true,true,true,true,true,true,true,false,false] (fun s_=>[(33,.agg #[s_.1]),(35,.agg #[s_.2.1]),(38,.tuple #[.agg #[s_.2.2.1],.bool t14]),(10,.pointer (some ⟨s_.2.2.2,0,none⟩)),(31,.tuple #[.agg #[s_.2.2.1],.bool t14]),(39,.agg #[s_.2.2.1]),(40,.bool t14)]) (fun s_ w'=>(w'.cell? ⟨gb1,0,none⟩ = some (.slice A0_0 l0_0.length c0_0) ∧ w'.cell? ⟨gb2,0,none⟩ = some (.slice A1_0 l1_0.length c1_0)) ∧ (Kd.R k79 79 w' w.heap.size (fun k_=>some k_ ≠ (s_.2.2.1 : Value).ownBlock) s_.2.1 t8) ∧ (Kd.R k79 79 w' w.heap.size (fun k_=>some k_ ≠ (s_.2.1 : Value).ownBlock) s_.2.2.1 t11) ∧ (Kd.R k106 106 w' w.heap.size (fun _=>True) s_.1 t5) ∧ (w'.heap[gb1]? = some (.cells #[.slice A0_0 l0_0.length c0_0] 24 (0,0))) ∧ (w'.heap[s_.2.2.2]? = some (.cells #[.slice none 0 0] 37 (0,0))) ∧ (w'.heap[gb2]? = some (.cells #[.slice A1_0 l1_0.length c1_0] 27 (0,0))) ∧ (w.heap.size ≤ s_.2.2.2) ∧ (w.heap.size ≤ s_.2.2.2) ∧ (gb1 ≠ s_.2.2.2) ∧ (s_.2.2.2 ≠ gb1) ∧ (gb2 ≠ s_.2.2.2) ∧ (s_.2.2.2 ≠ gb2) ∧ (Below w.heap.size w w')) ?_ ?_
   rotate_left
   ·intro hCont
    refine two_ (i:=1) (j:=10) (Ni:=some 33) (Nj:=some 10) #[true,true,true,false,true,true,false,false,false,false,false,false,false] #[true,false,true,false,true,true,false,false,false,false,true,false,false] rfl rfl rfl rfl (two_of HT_.out (by kernel_rfl)) (by decide) (by decide) (fun K hK=>?_) (fun K hK=>?_)
    ·skip
     refine goes_ Try.func17 (by kernel_rfl) rfl #[.agg #[.slice A0_0 l0_0.length c0_0]] (by rfl) rfl rfl lm_ ?_
     with_reducible refine (laws_toTree.calls k _ _ l0_0 t5 _ ?side1 ?side2 A21.1).mono ?_
     (case side1=>exact cc_ (C_below HR0_0.1 HB.1))
     (case side2=>exact HC0_0.1)
     rintro e w36 ⟨v6,rfl,ho0,hb⟩
     refine ⟨_,rfl,?_⟩
     have n0_:=a0_ (R_lower ho0 (below_size hb_))
     have n1_:=kb_ BK1 hb
     have n2_:=kb_ BK2 hb
     have n3_:=a0_ (below_step hb_ hb)
     clear BK1
     clear BK2
     clear HB
     have HO7:=n0_
     have BK1:=n1_
     have BK2:=n2_
     have HB:=n3_
     clear n0_ n1_ n2_ n3_
     (try clear hb)
     (try clear hb2)
     (try clear hk)
     (try clear hi)
     (try clear ho0)
     refine hK.out _ _ ⟨(blk_cell BK1.1 0).trans rfl,(blk_cell BK2.1 0).trans rfl⟩ (fun hHeld=>?_)
     clear hK K
     refine norm_ (a':=?_) ?_ ?_
     rotate_left
     ·show Act.put _ (some 33) _ = _
      simp only [Act.put,s1_,s2_,s3_,i64_w,i32_w]
      rfl
     refine two_ (i:=3) (j:=10) (Ni:=some 35) (Nj:=some 10) #[true,true,true,true,true,true,false,false,false,false,false,false,false] #[true,true,true,false,true,true,false,false,false,false,true,false,false] rfl rfl rfl rfl (two_of HT_.out (by kernel_rfl)) (by decide) (by decide) (fun K hK=>?_) (fun K hK=>?_)
     ·skip
      refine goes_ Try.func18 (by kernel_rfl) rfl #[.agg #[.slice A1_0 l1_0.length c1_0]] (by rfl) rfl rfl lm_ ?_
      with_reducible refine (laws_toHeap.calls k _ _ l1_0 t8 _ ?side1 ?side2 A22.1).mono ?_
      (case side1=>exact cc_ (C_below HR1_0.1 HB.1))
      (case side2=>exact HC1_0.1)
      rintro e w37 ⟨v9,rfl,ho0,hb⟩
      refine ⟨_,rfl,?_⟩
      have n0_:=rb_ HO7 hb
      have n1_:=a0_ (R_lower ho0 (below_size hb_))
      have n2_:=kb_ BK1 hb
      have n3_:=kb_ BK2 hb
      have n4_:=a0_ (below_step hb_ hb)
      clear HO7
      clear BK1
      clear BK2
      clear HB
      have HO7:=n0_
      have HO10:=n1_
      have BK1:=n2_
      have BK2:=n3_
      have HB:=n4_
      clear n0_ n1_ n2_ n3_ n4_
      (try clear hb)
      (try clear hb2)
      (try clear hk)
      (try clear hi)
      (try clear ho0)
      obtain ⟨Ao38,co38,eo38⟩:=R_slice HO7.1
      (first | subst eo38 | (injection eo38 with f1_ f2_ f3_;have f4_:=f1_.symm;have f5_:=f3_.symm;clear f1_ f2_ f3_;subst f4_;subst f5_))
      obtain ⟨Ao39,co39,eo39⟩:=R_slice HO10.1
      (first | subst eo39 | (injection eo39 with f1_ f2_ f3_;have f4_:=f1_.symm;have f5_:=f3_.symm;clear f1_ f2_ f3_;subst f4_;subst f5_))
      refine hK.out _ _ ⟨(blk_cell BK1.1 0).trans rfl,(blk_cell BK2.1 0).trans rfl⟩ (fun hHeld=>?_)
      clear hK K
      refine norm_ (a':=?_) ?_ ?_
      rotate_left
      ·show Act.put _ (some 35) _ = _
       simp only [Act.put,s1_,s2_,s3_,i64_w,i32_w]
       rfl
      refine two_ (i:=6) (j:=10) (Ni:=some 38) (Nj:=some 10) #[true,true,true,true,true,true,true,false,false,false,false,false,false] #[true,true,true,true,true,true,false,false,false,false,true,false,false] rfl rfl rfl rfl (two_of HT_.out (by kernel_rfl)) (by decide) (by decide) (fun K hK=>?_) (fun K hK=>?_)
      ·skip
       refine goes_ Try.func42 (by kernel_rfl) rfl #[.agg #[.slice Ao38 t5.length co38],.agg #[.slice Ao39 t8.length co39],.int .i64 a2,.int .i64 a3] (by rfl) rfl rfl lm_ ?_
       with_reducible refine (spec_RaiseWhile.calls k _ _ t5 _ _ t8 a2 a3 t11 t14 _ ?side1 ?side2 ?side3 ?side4 A23.1).mono ?_
       (case side1=>exact cc_ (R_reads' HO7.1).2.2)
       (case side2=>exact (R_reads' HO7.1).2.1)
       (case side3=>exact cc_ (R_reads' HO10.1).2.2)
       (case side4=>exact (R_reads' HO10.1).2.1)
       rintro e w40 ⟨v12,rfl,ho0,hb⟩
       refine ⟨_,rfl,?_⟩
       have n0_:=rb_ HO7 hb
       have n1_:=a0_ (R_elder' (rr_ HO10.1) (R_base ho0) hb)
       have n2_:=a0_ (R_lower (R_new' ho0 (R_lt (rr_ HO10.1))) (below_size hb_))
       have n3_:=kb_ BK1 hb
       have n4_:=kb_ BK2 hb
       have n5_:=a0_ (below_step hb_ hb)
       clear HO7
       clear HO10
       clear BK1
       clear BK2
       clear HB
       have HO7:=n0_
       have HO10:=n1_
       have HO13:=n2_
       have BK1:=n3_
       have BK2:=n4_
       have HB:=n5_
       clear n0_ n1_ n2_ n3_ n4_ n5_
       (try clear hb)
       (try clear hb2)
       (try clear hk)
       (try clear hi)
       (try clear ho0)
       refine hK.out _ _ ⟨(blk_cell BK1.1 0).trans rfl,(blk_cell BK2.1 0).trans rfl⟩ (fun hHeld=>?_)
       clear hK K
       refine norm_ (a':=?_) ?_ ?_
       rotate_left
       ·show Act.put _ (some 38) _ = _
        simp only [Act.put,s1_,s2_,s3_,i64_w,i32_w]
        rfl
       refine pure_ (i:=7) (N:=some 31) (v:=?_) (a':=?_) #[true,true,true,true,true,true,true,true,false,false,false,false,false] rfl rfl (any_of HT_.out (by kernel_rfl)) (fun _ _ _ h=>h) (Or.inl ⟨by rfl,?_⟩) ?_ ?_
       rotate_left
       ·intro w'
        go_simp
        with_reducible rfl
       rotate_left
       ·simp only [Act.put,s1_,s2_,s3_,i64_w,i32_w]
        rfl
       refine pure_ (i:=8) (N:=some 39) (v:=?_) (a':=?_) #[true,true,true,true,true,true,true,true,true,false,false,false,false] rfl rfl (any_of HT_.out (by kernel_rfl)) (fun _ _ _ h=>h) (Or.inl ⟨by rfl,?_⟩) ?_ ?_
       rotate_left
       ·intro w'
        go_simp
        with_reducible rfl
       rotate_left
       ·simp only [Act.put,s1_,s2_,s3_,i64_w,i32_w]
        rfl
       refine pure_ (i:=9) (N:=some 40) (v:=?_) (a':=?_) #[true,true,true,true,true,true,true,true,true,true,false,false,false] rfl rfl (any_of HT_.out (by kernel_rfl)) (fun _ _ _ h=>h) (Or.inl ⟨by rfl,?_⟩) ?_ ?_
       rotate_left
       ·intro w'
        go_simp
        with_reducible rfl
       rotate_left
       ·simp only [Act.put,s1_,s2_,s3_,i64_w,i32_w]
        rfl
       refine one_ (i:=10) (N:=some 10) #[true,true,true,true,true,true,true,true,true,true,true,false,false] rfl rfl (one_of HT_.out (by kernel_rfl)) (by decide) (fun K hK=>?_)
       refine box_step ?hg (N:=10) ?hd (cs:=#[.slice none 0 0]) (t:=37) ?hr ?_;(case hd=>rfl);(case hg=>rfl);(case hr=>first | (go_simp;done) | (go_simp;rfl))
       intro gb15 hg w41 hbox hb
       have n0_:=rb_ HO7 hb
       have n1_:=rb_ HO10 hb
       have n2_:=rb_ HO13 hb
       have n3_:=kb_ BK1 hb
       have n4_:=kb_ BK2 hb
       have n5_:=a0_ (below_step hb_ hb)
       have n6_:=a0_ (hbox)
       have n7_:=a0_ ((by rw [hg];exact (below_size hb_) : w.heap.size ≤ gb15))
       have n8_:=a0_ ((by rw [hg];exact (below_size hb_) : w.heap.size ≤ gb15))
       have n9_:=a0_ ((by rw [hg];exact Nat.ne_of_lt (blk_lt (bb_ BK1.1)) : gb1 ≠ gb15))
       have n10_:=a0_ ((by rw [hg];exact Nat.ne_of_gt (blk_lt (bb_ BK1.1)) : gb15 ≠ gb1))
       have n11_:=a0_ ((by rw [hg];exact Nat.ne_of_lt (blk_lt (bb_ BK2.1)) : gb2 ≠ gb15))
       have n12_:=a0_ ((by rw [hg];exact Nat.ne_of_gt (blk_lt (bb_ BK2.1)) : gb15 ≠ gb2))
       clear HO7
       clear HO10
       clear HO13
       clear BK1
       clear BK2
       clear HB
       have HO7:=n0_
       have HO10:=n1_
       have HO13:=n2_
       have BK1:=n3_
       have BK2:=n4_
       have HB:=n5_
       have BK15:=n6_
       have GW15:=n7_
       have GE15:=n8_
       have NB1_15:=n9_
       have NB15_1:=n10_
       have NB2_15:=n11_
       have NB15_2:=n12_
       clear n0_ n1_ n2_ n3_ n4_ n5_ n6_ n7_ n8_ n9_ n10_ n11_ n12_
       clear hb hbox hg
       refine hK.out _ _ ⟨(blk_cell BK1.1 0).trans rfl,(blk_cell BK2.1 0).trans rfl⟩ (fun hHeld=>?_)
       clear hK K
       refine norm_ (a':=?_) ?_ ?_
       rotate_left
       ·show Act.put _ (some 10) _ = _
        simp only [Act.put,s1_,s2_,s3_,i64_w,i32_w]
        rfl
       exact norm_ (by simp only [putAll,Act.put,s1_,s2_,s3_]) (hCont (.slice Ao38 t5.length co38,.slice Ao39 t8.length co39,v12,gb15) _ ⟨hHeld,(rm_ HO10.1 (fun _ hk=>hk.2)),(rm_ HO13.1 (fun _ hk=>hk.2)),(rr_ HO7.1),(bb_ BK1.1),(bb_ BK15.1),(bb_ BK2.1),GW15.1,GE15.1,NB1_15.1,NB15_1.1,NB2_15.1,NB15_2.1,hb_⟩)
      ·skip
       refine box_step ?hg (N:=10) ?hd (cs:=#[.slice none 0 0]) (t:=37) ?hr ?_;(case hd=>rfl);(case hg=>rfl);(case hr=>first | (go_simp;done) | (go_simp;rfl))
       intro gb15 hg w38 hbox hb
       have n0_:=rb_ HO7 hb
       have n1_:=rb_ HO10 hb
       have n2_:=kb_ BK1 hb
       have n3_:=kb_ BK2 hb
       have n4_:=a0_ (below_step hb_ hb)
       have n5_:=a0_ (hbox)
       have n6_:=a0_ ((by rw [hg];exact (below_size hb_) : w.heap.size ≤ gb15))
       have n7_:=a0_ ((by rw [hg];exact (below_size hb_) : w.heap.size ≤ gb15))
       have n8_:=a0_ ((by rw [hg];exact Nat.ne_of_lt (blk_lt (bb_ BK1.1)) : gb1 ≠ gb15))
       have n9_:=a0_ ((by rw [hg];exact Nat.ne_of_gt (blk_lt (bb_ BK1.1)) : gb15 ≠ gb1))
       have n10_:=a0_ ((by rw [hg];exact Nat.ne_of_lt (blk_lt (bb_ BK2.1)) : gb2 ≠ gb15))
       have n11_:=a0_ ((by rw [hg];exact Nat.ne_of_gt (blk_lt (bb_ BK2.1)) : gb15 ≠ gb2))
       clear HO7
       clear HO10
       clear BK1
       clear BK2
       clear HB
       have HO7:=n0_
       have HO10:=n1_
       have BK1:=n2_
       have BK2:=n3_
       have HB:=n4_
       have BK15:=n5_
       have GW15:=n6_
       have GE15:=n7_
       have NB1_15:=n8_
       have NB15_1:=n9_
       have NB2_15:=n10_
       have NB15_2:=n11_
       clear n0_ n1_ n2_ n3_ n4_ n5_ n6_ n7_ n8_ n9_ n10_ n11_
       clear hb hbox hg
       obtain ⟨Ao39,co39,eo39⟩:=R_slice HO7.1
       (first | subst eo39 | (injection eo39 with f1_ f2_ f3_;have f4_:=f1_.symm;have f5_:=f3_.symm;clear f1_ f2_ f3_;subst f4_;subst f5_))
       obtain ⟨Ao40,co40,eo40⟩:=R_slice HO10.1
       (first | subst eo40 | (injection eo40 with f1_ f2_ f3_;have f4_:=f1_.symm;have f5_:=f3_.symm;clear f1_ f2_ f3_;subst f4_;subst f5_))
       refine hK.out _ _ ⟨(blk_cell BK1.1 0).trans rfl,(blk_cell BK2.1 0).trans rfl⟩ (fun hHeld=>?_)
       clear hK K
       refine norm_ (a':=?_) ?_ ?_
       rotate_left
       ·show Act.put _ (some 10) _ = _
        simp only [Act.put,s1_,s2_,s3_,i64_w,i32_w]
        rfl
       refine one_ (i:=6) (N:=some 38) #[true,true,true,true,true,true,true,false,false,false,true,false,false] rfl rfl (one_of HT_.out (by kernel_rfl)) (by decide) (fun K hK=>?_)
       refine goes_ Try.func42 (by kernel_rfl) rfl #[.agg #[.slice Ao39 t5.length co39],.agg #[.slice Ao40 t8.length co40],.int .i64 a2,.int .i64 a3] (by rfl) rfl rfl lm_ ?_
       with_reducible refine (spec_RaiseWhile.calls k _ _ t5 _ _ t8 a2 a3 t11 t14 _ ?side1 ?side2 ?side3 ?side4 A23.1).mono ?_
       (case side1=>exact cc_ (R_reads' HO7.1).2.2)
       (case side2=>exact (R_reads' HO7.1).2.1)
       (case side3=>exact cc_ (R_reads' HO10.1).2.2)
       (case side4=>exact (R_reads' HO10.1).2.1)
       rintro e w41 ⟨v12,rfl,ho0,hb⟩
       refine ⟨_,rfl,?_⟩
       have n0_:=rb_ HO7 hb
       have n1_:=a0_ (R_elder' (rr_ HO10.1) (R_base ho0) hb)
       have n2_:=a0_ (R_lower (R_new' ho0 (R_lt (rr_ HO10.1))) (below_size hb_))
       have n3_:=kb_ BK1 hb
       have n4_:=kb_ BK2 hb
       have n5_:=kb_ BK15 hb
       have n6_:=a0_ (below_step hb_ hb)
       clear HO7
       clear HO10
       clear BK1
       clear BK2
       clear BK15
       clear HB
       have HO7:=n0_
       have HO10:=n1_
       have HO13:=n2_
       have BK1:=n3_
       have BK2:=n4_
       have BK15:=n5_
       have HB:=n6_
       clear n0_ n1_ n2_ n3_ n4_ n5_ n6_
       (try clear hb)
       (try clear hb2)
       (try clear hk)
       (try clear hi)
       (try clear ho0)
       refine hK.out _ _ ⟨(blk_cell BK1.1 0).trans rfl,(blk_cell BK2.1 0).trans rfl⟩ (fun hHeld=>?_)
       clear hK K
       refine norm_ (a':=?_) ?_ ?_
       rotate_left
       ·show Act.put _ (some 38) _ = _
        simp only [Act.put,s1_,s2_,s3_,i64_w,i32_w]
        rfl
       refine pure_ (i:=7) (N:=some 31) (v:=?_) (a':=?_) #[true,true,true,true,true,true,true,true,false,false,true,false,false] rfl rfl (any_of HT_.out (by kernel_rfl)) (fun _ _ _ h=>h) (Or.inl ⟨by rfl,?_⟩) ?_ ?_
       rotate_left
       ·intro w'
        go_simp
        with_reducible rfl
       rotate_left
       ·simp only [Act.put,s1_,s2_,s3_,i64_w,i32_w]
        rfl
       refine pure_ (i:=8) (N:=some 39) (v:=?_) (a':=?_) #[true,true,true,true,true,true,true,true,true,false,true,false,false] rfl rfl (any_of HT_.out (by kernel_rfl)) (fun _ _ _ h=>h) (Or.inl ⟨by rfl,?_⟩) ?_ ?_
       rotate_left
       ·intro w'
        go_simp
        with_reducible rfl
       rotate_left
       ·simp only [Act.put,s1_,s2_,s3_,i64_w,i32_w]
        rfl
       refine pure_ (i:=9) (N:=some 40) (v:=?_) (a':=?_) #[true,true,true,true,true,true,true,true,true,true,true,false,false] rfl rfl (any_of HT_.out (by kernel_rfl)) (fun _ _ _ h=>h) (Or.inl ⟨by rfl,?_⟩) ?_ ?_
       rotate_left
       ·intro w'
        go_simp
        with_reducible rfl
       rotate_left
       ·simp only [Act.put,s1_,s2_,s3_,i64_w,i32_w]
        rfl
       exact norm_ (by simp only [putAll,Act.put,s1_,s2_,s3_]) (hCont (.slice Ao39 t5.length co39,.slice Ao40 t8.length co40,v12,gb15) _ ⟨hHeld,(rm_ HO10.1 (fun _ hk=>hk.2)),(rm_ HO13.1 (fun _ hk=>hk.2)),(rr_ HO7.1),(bb_ BK1.1),(bb_ BK15.1),(bb_ BK2.1),GW15.1,GE15.1,NB1_15.1,NB15_1.1,NB2_15.1,NB15_2.1,hb_⟩)
     ·skip
      refine box_step ?hg (N:=10) ?hd (cs:=#[.slice none 0 0]) (t:=37) ?hr ?_;(case hd=>rfl);(case hg=>rfl);(case hr=>first | (go_simp;done) | (go_simp;rfl))
      intro gb15 hg w37 hbox hb
      have n0_:=rb_ HO7 hb
      have n1_:=kb_ BK1 hb
      have n2_:=kb_ BK2 hb
      have n3_:=a0_ (below_step hb_ hb)
      have n4_:=a0_ (hbox)
      have n5_:=a0_ ((by rw [hg];exact (below_size hb_) : w.heap.size ≤ gb15))
      have n6_:=a0_ ((by rw [hg];exact (below_size hb_) : w.heap.size ≤ gb15))
      have n7_:=a0_ ((by rw [hg];exact Nat.ne_of_lt (blk_lt (bb_ BK1.1)) : gb1 ≠ gb15))
      have n8_:=a0_ ((by rw [hg];exact Nat.ne_of_gt (blk_lt (bb_ BK1.1)) : gb15 ≠ gb1))
      have n9_:=a0_ ((by rw [hg];exact Nat.ne_of_lt (blk_lt (bb_ BK2.1)) : gb2 ≠ gb15))
      have n10_:=a0_ ((by rw [hg];exact Nat.ne_of_gt (blk_lt (bb_ BK2.1)) : gb15 ≠ gb2))
      clear HO7
      clear BK1
      clear BK2
      clear HB
      have HO7:=n0_
      have BK1:=n1_
      have BK2:=n2_
      have HB:=n3_
      have BK15:=n4_
      have GW15:=n5_
      have GE15:=n6_
      have NB1_15:=n7_
      have NB15_1:=n8_
      have NB2_15:=n9_
      have NB15_2:=n10_
      clear n0_ n1_ n2_ n3_ n4_ n5_ n6_ n7_ n8_ n9_ n10_
      clear hb hbox hg
      refine hK.out _ _ ⟨(blk_cell BK1.1 0).trans rfl,(blk_cell BK2.1 0).trans rfl⟩ (fun hHeld=>?_)
      clear hK K
      refine norm_ (a':=?_) ?_ ?_
      rotate_left
      ·show Act.put _ (some 10) _ = _
       simp only [Act.put,s1_,s2_,s3_,i64_w,i32_w]
       rfl
      refine one_ (i:=3) (N:=some 35) #[true,true,true,true,true,true,false,false,false,false,true,false,false] rfl rfl (one_of HT_.out (by kernel_rfl)) (by decide) (fun K hK=>?_)
      refine goes_ Try.func18 (by kernel_rfl) rfl #[.agg #[.slice A1_0 l1_0.length c1_0]] (by rfl) rfl rfl lm_ ?_
      with_reducible refine (laws_toHeap.calls k _ _ l1_0 t8 _ ?side1 ?side2 A22.1).mono ?_
      (case side1=>exact cc_ (C_below HR1_0.1 HB.1))
      (case side2=>exact HC1_0.1)
      rintro e w38 ⟨v9,rfl,ho0,hb⟩
      refine ⟨_,rfl,?_⟩
      have n0_:=rb_ HO7 hb
      have n1_:=a0_ (R_lower ho0 (below_size hb_))
      have n2_:=kb_ BK1 hb
      have n3_:=kb_ BK2 hb
      have n4_:=kb_ BK15 hb
      have n5_:=a0_ (below_step hb_ hb)
      clear HO7
      clear BK1
      clear BK2
      clear BK15
      clear HB
      have HO7:=n0_
      have HO10:=n1_
      have BK1:=n2_
      have BK2:=n3_
      have BK15:=n4_
      have HB:=n5_
      clear n0_ n1_ n2_ n3_ n4_ n5_
      (try clear hb)
      (try clear hb2)
      (try clear hk)
      (try clear hi)
      (try clear ho0)
      obtain ⟨Ao39,co39,eo39⟩:=R_slice HO7.1
      (first | subst eo39 | (injection eo39 with f1_ f2_ f3_;have f4_:=f1_.symm;have f5_:=f3_.symm;clear f1_ f2_ f3_;subst f4_;subst f5_))
      obtain ⟨Ao40,co40,eo40⟩:=R_slice HO10.1
      (first | subst eo40 | (injection eo40 with f1_ f2_ f3_;have f4_:=f1_.symm;have f5_:=f3_.symm;clear f1_ f2_ f3_;subst f4_;subst f5_))
      refine hK.out _ _ ⟨(blk_cell BK1.1 0).trans rfl,(blk_cell BK2.1 0).trans rfl⟩ (fun hHeld=>?_)
      clear hK K
      refine norm_ (a':=?_) ?_ ?_
      rotate_left
      ·show Act.put _ (some 35) _ = _
       simp only [Act.put,s1_,s2_,s3_,i64_w,i32_w]
       rfl
      refine one_ (i:=6) (N:=some 38) #[true,true,true,true,true,true,true,false,false,false,true,false,false] rfl rfl (one_of HT_.out (by kernel_rfl)) (by decide) (fun K hK=>?_)
      refine goes_ Try.func42 (by kernel_rfl) rfl #[.agg #[.slice Ao39 t5.length co39],.agg #[.slice Ao40 t8.length co40],.int .i64 a2,.int .i64 a3] (by rfl) rfl rfl lm_ ?_
      with_reducible refine (spec_RaiseWhile.calls k _ _ t5 _ _ t8 a2 a3 t11 t14 _ ?side1 ?side2 ?side3 ?side4 A23.1).mono ?_
      (case side1=>exact cc_ (R_reads' HO7.1).2.2)
      (case side2=>exact (R_reads' HO7.1).2.1)
      (case side3=>exact cc_ (R_reads' HO10.1).2.2)
      (case side4=>exact (R_reads' HO10.1).2.1)
      rintro e w41 ⟨v12,rfl,ho0,hb⟩
      refine ⟨_,rfl,?_⟩
      have n0_:=rb_ HO7 hb
      have n1_:=a0_ (R_elder' (rr_ HO10.1) (R_base ho0) hb)
      have n2_:=a0_ (R_lower (R_new' ho0 (R_lt (rr_ HO10.1))) (below_size hb_))
      have n3_:=kb_ BK1 hb
      have n4_:=kb_ BK2 hb
      have n5_:=kb_ BK15 hb
      have n6_:=a0_ (below_step hb_ hb)
      clear HO7
      clear HO10
      clear BK1
      clear BK2
      clear BK15
      clear HB
      have HO7:=n0_
      have HO10:=n1_
      have HO13:=n2_
      have BK1:=n3_
      have BK2:=n4_
      have BK15:=n5_
      have HB:=n6_
      clear n0_ n1_ n2_ n3_ n4_ n5_ n6_
      (try clear hb)
      (try clear hb2)
      (try clear hk)
      (try clear hi)
      (try clear ho0)
      refine hK.out _ _ ⟨(blk_cell BK1.1 0).trans rfl,(blk_cell BK2.1 0).trans rfl⟩ (fun hHeld=>?_)
      clear hK K
      refine norm_ (a':=?_) ?_ ?_
      rotate_left
      ·show Act.put _ (some 38) _ = _
       simp only [Act.put,s1_,s2_,s3_,i64_w,i32_w]
       rfl
      refine pure_ (i:=7) (N:=some 31) (v:=?_) (a':=?_) #[true,true,true,true,true,true,true,true,false,false,true,false,false] rfl rfl (any_of HT_.out (by kernel_rfl)) (fun _ _ _ h=>h) (Or.inl ⟨by rfl,?_⟩) ?_ ?_
      rotate_left
      ·intro w'
       go_simp
       with_reducible rfl
      rotate_left
      ·simp only [Act.put,s1_,s2_,s3_,i64_w,i32_w]
       rfl
      refine pure_ (i:=8) (N:=some 39) (v:=?_) (a':=?_) #[true,true,true,true,true,true,true,true,true,false,true,false,false] rfl rfl (any_of HT_.out (by kernel_rfl)) (fun _ _ _ h=>h) (Or.inl ⟨by rfl,?_⟩) ?_ ?_
      rotate_left
      ·intro w'
       go_simp
       with_reducible rfl
      rotate_left
      ·simp only [Act.put,s1_,s2_,s3_,i64_w,i32_w]
       rfl
      refine pure_ (i:=9) (N:=some 40) (v:=?_) (a':=?_) #[true,true,true,true,true,true,true,true,true,true,true,false,false] rfl rfl (any_of HT_.out (by kernel_rfl)) (fun _ _ _ h=>h) (Or.inl ⟨by rfl,?_⟩) ?_ ?_
      rotate_left
      ·intro w'
       go_simp
       with_reducible rfl
      rotate_left
      ·simp only [Act.put,s1_,s2_,s3_,i64_w,i32_w]
       rfl
      exact norm_ (by simp only [putAll,Act.put,s1_,s2_,s3_]) (hCont (.slice Ao39 t5.length co39,.slice Ao40 t8.length co40,v12,gb15) _ ⟨hHeld,(rm_ HO10.1 (fun _ hk=>hk.2)),(rm_ HO13.1 (fun _ hk=>hk.2)),(rr_ HO7.1),(bb_ BK1.1),(bb_ BK15.1),(bb_ BK2.1),GW15.1,GE15.1,NB1_15.1,NB15_1.1,NB2_15.1,NB15_2.1,hb_⟩)
    ·skip
     refine box_step ?hg (N:=10) ?hd (cs:=#[.slice none 0 0]) (t:=37) ?hr ?_;(case hd=>rfl);(case hg=>rfl);(case hr=>first | (go_simp;done) | (go_simp;rfl))
     intro gb15 hg w36 hbox hb
     have n0_:=kb_ BK1 hb
     have n1_:=kb_ BK2 hb
     have n2_:=a0_ (below_step hb_ hb)
     have n3_:=a0_ (hbox)
     have n4_:=a0_ ((by rw [hg];exact (below_size hb_) : w.heap.size ≤ gb15))
     have n5_:=a0_ ((by rw [hg];exact (below_size hb_) : w.heap.size ≤ gb15))
     have n6_:=a0_ ((by rw [hg];exact Nat.ne_of_lt (blk_lt (bb_ BK1.1)) : gb1 ≠ gb15))
     have n7_:=a0_ ((by rw [hg];exact Nat.ne_of_gt (blk_lt (bb_ BK1.1)) : gb15 ≠ gb1))
     have n8_:=a0_ ((by rw [hg];exact Nat.ne_of_lt (blk_lt (bb_ BK2.1)) : gb2 ≠ gb15))
     have n9_:=a0_ ((by rw [hg];exact Nat.ne_of_gt (blk_lt (bb_ BK2.1)) : gb15 ≠ gb2))
     clear BK1
     clear BK2
     clear HB
     have BK1:=n0_
     have BK2:=n1_
     have HB:=n2_
     have BK15:=n3_
     have GW15:=n4_
     have GE15:=n5_
     have NB1_15:=n6_
     have NB15_1:=n7_
     have NB2_15:=n8_
     have NB15_2:=n9_
     clear n0_ n1_ n2_ n3_ n4_ n5_ n6_ n7_ n8_ n9_
     clear hb hbox hg
     refine hK.out _ _ ⟨(blk_cell BK1.1 0).trans rfl,(blk_cell BK2.1 0).trans rfl⟩ (fun hHeld=>?_)
     clear hK K
     refine norm_ (a':=?_) ?_ ?_
     rotate_left
     ·show Act.put _ (some 10) _ = _
      simp only [Act.put,s1_,s2_,s3_,i64_w,i32_w]
      rfl
     refine one_ (i:=1) (N:=some 33) #[true,true,true,false,true,true,false,false,false,false,true,false,false] rfl rfl (one_of HT_.out (by kernel_rfl)) (by decide) (fun K hK=>?_)
     refine goes_ Try.func17 (by kernel_rfl) rfl #[.agg #[.slice A0_0 l0_0.length c0_0]] (by rfl) rfl rfl lm_ ?_
     with_reducible refine (laws_toTree.calls k _ _ l0_0 t5 _ ?side1 ?side2 A21.1).mono ?_
     (case side1=>exact cc_ (C_below HR0_0.1 HB.1))
     (case side2=>exact HC0_0.1)
     rintro e w37 ⟨v6,rfl,ho0,hb⟩
     refine ⟨_,rfl,?_⟩
     have n0_:=a0_ (R_lower ho0 (below_size hb_))
     have n1_:=kb_ BK1 hb
     have n2_:=kb_ BK2 hb
     have n3_:=kb_ BK15 hb
     have n4_:=a0_ (below_step hb_ hb)
     clear BK1
     clear BK2
     clear BK15
     clear HB
     have HO7:=n0_
     have BK1:=n1_
     have BK2:=n2_
     have BK15:=n3_
     have HB:=n4_
     clear n0_ n1_ n2_ n3_ n4_
     (try clear hb)
     (try clear hb2)
     (try clear hk)
     (try clear hi)
     (try clear ho0)
     refine hK.out _ _ ⟨(blk_cell BK1.1 0).trans rfl,(blk_cell BK2.1 0).trans rfl⟩ (fun hHeld=>?_)
     clear hK K
     refine norm_ (a':=?_) ?_ ?_
     rotate_left
     ·show Act.put _ (some 33) _ = _
      simp only [Act.put,s1_,s2_,s3_,i64_w,i32_w]
      rfl
     refine one_ (i:=3) (N:=some 35) #[true,true,true,true,true,true,false,false,false,false,true,false,false] rfl rfl (one_of HT_.out (by kernel_rfl)) (by decide) (fun K hK=>?_)
     refine goes_ Try.func18 (by kernel_rfl) rfl #[.agg #[.slice A1_0 l1_0.length c1_0]] (by rfl) rfl rfl lm_ ?_
     with_reducible refine (laws_toHeap.calls k _ _ l1_0 t8 _ ?side1 ?side2 A22.1).mono ?_
     (case side1=>exact cc_ (C_below HR1_0.1 HB.1))
     (case side2=>exact HC1_0.1)
     rintro e w38 ⟨v9,rfl,ho0,hb⟩
     refine ⟨_,rfl,?_⟩
     have n0_:=rb_ HO7 hb
     have n1_:=a0_ (R_lower ho0 (below_size hb_))
     have n2_:=kb_ BK1 hb
     have n3_:=kb_ BK2 hb
     have n4_:=kb_ BK15 hb
     have n5_:=a0_ (below_step hb_ hb)
     clear HO7
     clear BK1
     clear BK2
     clear BK15
     clear HB
     have HO7:=n0_
     have HO10:=n1_
     have BK1:=n2_
     have BK2:=n3_
     have BK15:=n4_
     have HB:=n5_
     clear n0_ n1_ n2_ n3_ n4_ n5_
     (try clear hb)
     (try clear hb2)
     (try clear hk)
     (try clear hi)
     (try clear ho0)
     obtain ⟨Ao39,co39,eo39⟩:=R_slice HO7.1
     (first | subst eo39 | (injection eo39 with f1_ f2_ f3_;have f4_:=f1_.symm;have f5_:=f3_.symm;clear f1_ f2_ f3_;subst f4_;subst f5_))
     obtain ⟨Ao40,co40,eo40⟩:=R_slice HO10.1
     (first | subst eo40 | (injection eo40 with f1_ f2_ f3_;have f4_:=f1_.symm;have f5_:=f3_.symm;clear f1_ f2_ f3_;subst f4_;subst f5_))
     refine hK.out _ _ ⟨(blk_cell BK1.1 0).trans rfl,(blk_cell BK2.1 0).trans rfl⟩ (fun hHeld=>?_)
     clear hK K
     refine norm_ (a':=?_) ?_ ?_
     rotate_left
     ·show Act.put _ (some 35) _ = _
      simp only [Act.put,s1_,s2_,s3_,i64_w,i32_w]
      rfl
     refine one_ (i:=6) (N:=some 38) #[true,true,true,true,true,true,true,false,false,false,true,false,false] rfl rfl (one_of HT_.out (by kernel_rfl)) (by decide) (fun K hK=>?_)
     refine goes_ Try.func42 (by kernel_rfl) rfl #[.agg #[.slice Ao39 t5.length co39],.agg #[.slice Ao40 t8.length co40],.int .i64 a2,.int .i64 a3] (by rfl) rfl rfl lm_ ?_
     with_reducible refine (spec_RaiseWhile.calls k _ _ t5 _ _ t8 a2 a3 t11 t14 _ ?side1 ?side2 ?side3 ?side4 A23.1).mono ?_
     (case side1=>exact cc_ (R_reads' HO7.1).2.2)
     (case side2=>exact (R_reads' HO7.1).2.1)
     (case side3=>exact cc_ (R_reads' HO10.1).2.2)
     (case side4=>exact (R_reads' HO10.1).2.1)
     rintro e w41 ⟨v12,rfl,ho0,hb⟩
     refine ⟨_,rfl,?_⟩
     have n0_:=rb_ HO7 hb
     have n1_:=a0_ (R_elder' (rr_ HO10.1) (R_base ho0) hb)
     have n2_:=a0_ (R_lower (R_new' ho0 (R_lt (rr_ HO10.1))) (below_size hb_))
     have n3_:=kb_ BK1 hb
     have n4_:=kb_ BK2 hb
     have n5_:=kb_ BK15 hb
     have n6_:=a0_ (below_step hb_ hb)
     clear HO7
     clear HO10
     clear BK1
     clear BK2
     clear BK15
     clear HB
     have HO7:=n0_
     have HO10:=n1_
     have HO13:=n2_
     have BK1:=n3_
     have BK2:=n4_
     have BK15:=n5_
     have HB:=n6_
     clear n0_ n1_ n2_ n3_ n4_ n5_ n6_
     (try clear hb)
     (try clear hb2)
     (try clear hk)
     (try clear hi)
     (try clear ho0)
     refine hK.out _ _ ⟨(blk_cell BK1.1 0).trans rfl,(blk_cell BK2.1 0).trans rfl⟩ (fun hHeld=>?_)
     clear hK K
     refine norm_ (a':=?_) ?_ ?_
     rotate_left
     ·show Act.put _ (some 38) _ = _
      simp only [Act.put,s1_,s2_,s3_,i64_w,i32_w]
      rfl
     refine pure_ (i:=7) (N:=some 31) (v:=?_) (a':=?_) #[true,true,true,true,true,true,true,true,false,false,true,false,false] rfl rfl (any_of HT_.out (by kernel_rfl)) (fun _ _ _ h=>h) (Or.inl ⟨by rfl,?_⟩) ?_ ?_
     rotate_left
     ·intro w'
      go_simp
      with_reducible rfl
     rotate_left
     ·simp only [Act.put,s1_,s2_,s3_,i64_w,i32_w]
      rfl
     refine pure_ (i:=8) (N:=some 39) (v:=?_) (a':=?_) #[true,true,true,true,true,true,true,true,true,false,true,false,false] rfl rfl (any_of HT_.out (by kernel_rfl)) (fun _ _ _ h=>h) (Or.inl ⟨by rfl,?_⟩) ?_ ?_
     rotate_left
     ·intro w'
      go_simp
      with_reducible rfl
     rotate_left
     ·simp only [Act.put,s1_,s2_,s3_,i64_w,i32_w]
      rfl
     refine pure_ (i:=9) (N:=some 40) (v:=?_) (a':=?_) #[true,true,true,true,true,true,true,true,true,true,true,false,false] rfl rfl (any_of HT_.out (by kernel_rfl)) (fun _ _ _ h=>h) (Or.inl ⟨by rfl,?_⟩) ?_ ?_
     rotate_left
     ·intro w'
      go_simp
      with_reducible rfl
     rotate_left
     ·simp only [Act.put,s1_,s2_,s3_,i64_w,i32_w]
      rfl
     exact norm_ (by simp only [putAll,Act.put,s1_,s2_,s3_]) (hCont (.slice Ao39 t5.length co39,.slice Ao40 t8.length co40,v12,gb15) _ ⟨hHeld,(rm_ HO10.1 (fun _ hk=>hk.2)),(rm_ HO13.1 (fun _ hk=>hk.2)),(rr_ HO7.1),(bb_ BK1.1),(bb_ BK15.1),(bb_ BK2.1),GW15.1,GE15.1,NB1_15.1,NB15_1.1,NB2_15.1,NB15_2.1,hb_⟩)
   rintro ⟨v6,v9,v12,gb15⟩ w42 ⟨hS_,h0_,h1_,h2_,h3_,h4_,h5_,h6_,h7_,h8_,h9_,h10_,h11_,h12_⟩
   have n0_ : Aside0 (Kd.R k79 79 w42 w.heap.size (fun k_=>some k_ ≠ (v12 : Value).ownBlock) v9 t8):=⟨h0_⟩
   have n1_ : Aside0 (Kd.R k79 79 w42 w.heap.size (fun k_=>some k_ ≠ (v9 : Value).ownBlock) v12 t11):=⟨h1_⟩
   have n2_ : Aside0 (Kd.R k106 106 w42 w.heap.size (fun _=>True) v6 t5):=⟨h2_⟩
   have n3_ : Aside0 (w42.heap[gb1]? = some (.cells #[.slice A0_0 l0_0.length c0_0] 24 (0,0))):=⟨h3_⟩
   have n4_ : Aside0 (w42.heap[gb15]? = some (.cells #[.slice none 0 0] 37 (0,0))):=⟨h4_⟩
   have n5_ : Aside0 (w42.heap[gb2]? = some (.cells #[.slice A1_0 l1_0.length c1_0] 27 (0,0))):=⟨h5_⟩
   have n6_ : Aside0 (w.heap.size ≤ gb15):=⟨h6_⟩
   have n7_ : Aside0 (w.heap.size ≤ gb15):=⟨h7_⟩
   have n8_ : Aside0 (gb1 ≠ gb15):=⟨h8_⟩
   have n9_ : Aside0 (gb15 ≠ gb1):=⟨h9_⟩
   have n10_ : Aside0 (gb2 ≠ gb15):=⟨h10_⟩
   have n11_ : Aside0 (gb15 ≠ gb2):=⟨h11_⟩
   have n12_ : Aside0 (Below w.heap.size w w42):=⟨h12_⟩
   clear BK1
   clear BK2
   clear HB
   clear h0_ h1_ h2_ h3_ h4_ h5_ h6_ h7_ h8_ h9_ h10_ h11_ h12_
   have HO10:=n0_
   have HO13:=n1_
   have HO7:=n2_
   have BK1:=n3_
   have BK15:=n4_
   have BK2:=n5_
   have GW15:=n6_
   have GE15:=n7_
   have NB1_15:=n8_
   have NB15_1:=n9_
   have NB2_15:=n10_
   have NB15_2:=n11_
   have HB:=n12_
   clear n0_ n1_ n2_ n3_ n4_ n5_ n6_ n7_ n8_ n9_ n10_ n11_ n12_
   have hHeld : w42.cell? ⟨gb1,0,none⟩ = some (.slice A0_0 l0_0.length c0_0) ∧ w42.cell? ⟨gb2,0,none⟩ = some (.slice A1_0 l1_0.length c1_0):=hS_
   obtain ⟨Ao43,co43,eo43⟩:=R_slice HO13.1
   (first | subst eo43 | (injection eo43 with f1_ f2_ f3_;have f4_:=f1_.symm;have f5_:=f3_.symm;clear f1_ f2_ f3_;subst f4_;subst f5_))
   refine norm_ (a':=?_) ?_ ?_
   rotate_left
   ·simp only [putAll,Act.put,s1_,s2_,s3_]
    rfl
   refine one_ (i:=11) (N:=none) #[true,true,true,true,true,true,true,true,true,true,true,true,false] rfl rfl (one_of HT_.out (by kernel_rfl)) (by decide) (fun K hK=>?_)
   have hs44 : w42.cell? ⟨gb15,0,none⟩ = some (.slice none 0 0):=(blk_cell BK15.1 0).trans rfl
   have hfs44:=blk_frozen BK15.1 0
   have hns44_0:=NB1_15.1
   have hns44_1:=NB2_15.1
   have hms44_0:=NB15_1.1
   have hms44_1:=NB15_2.1
   refine skip_ (w1:=?_) (by rfl) rfl ?_ ?_
   rotate_left
   ·go_simp
    rfl
   refine hK.out _ _ ⟨((cell_far (p:=⟨gb15,_,none⟩) NB1_15.1 _).trans (hHeld.1)),((cell_far (p:=⟨gb15,_,none⟩) NB2_15.1 _).trans (hHeld.2))⟩ (fun hHeld=>?_)
   clear hK K
   refine pure_ (i:=12) (N:=some 11) (v:=?_) (a':=?_) #[true,true,true,true,true,true,true,true,true,true,true,true,true] rfl rfl (any_of HT_.out (by kernel_rfl)) (fun _ _ _ h=>h) (Or.inl ⟨by rfl,?_⟩) ?_ ?_
   rotate_left
   ·intro w'
    go_simp
    with_reducible rfl
   rotate_left
   ·simp only [Act.put,s1_,s2_,s3_,i64_w,i32_w]
    rfl
   refine done_ (done_of HT_.out (by kernel_rfl)) ?_
   have hnb45:=NB1_15.1
   have hnc45:=NB15_1.1
   have hcz46_0 : w42.cell? ⟨gb1,0,none⟩ = some (.slice A0_0 l0_0.length c0_0):=(blk_cell BK1.1 0).trans rfl
   have hfz46_0:=blk_frozen BK1.1 0
   go_upto_region 12 with (first | ((with_reducible refine gate_callee (f:=17) rfl ?_);refine goesL_ (some 42) rfl rfl Try.func17 (by kernel_rfl) rfl #[.agg #[.slice A0_0 l0_0.length c0_0]] rfl lm_ ?_;(with_reducible refine (laws_toTree.calls k _ _ l0_0 t16 _ ?side1 ?side2 A24.1).mono ?_);(case side1=>exact C_below HR0_0.1 hb_);(case side2=>exact HC0_0.1);rintro e w47 ⟨v17,rfl,ho0,hb⟩;refine ⟨_,rfl,?_⟩;have n0_:=a0_ (R_elder' (by (with_reducible repeat (first | apply R_alloc | apply R_drewN | apply R_drew));exact (R_mono (R_far (p:=⟨gb15,0,none⟩) (R_types HO7.1 BK15.1 (by decide)) (fun _ hk=>hk.2) (.slice Ao43 t11.length co43)) (fun _ h_=>h_.1))) (R_base ho0) hb);have n1_:=a0_ (R_below (by (with_reducible repeat (first | apply R_alloc | apply R_drewN | apply R_drew));exact (R_mono (R_far (p:=⟨gb15,0,none⟩) (R_types HO10.1 BK15.1 (by decide)) (fun _ hk=>hk.2) (.slice Ao43 t11.length co43)) (fun _ h_=>h_.1))) hb);have n2_:=a0_ (R_below (by (with_reducible repeat (first | apply R_alloc | apply R_drewN | apply R_drew));exact (R_mono (R_far (p:=⟨gb15,0,none⟩) (R_types HO13.1 BK15.1 (by decide)) (fun _ hk=>hk.2) (.slice Ao43 t11.length co43)) (fun _ h_=>h_.1))) hb);have n3_:=a0_ (R_lower (R_new' ho0 (R_lt (by (with_reducible repeat (first | apply R_alloc | apply R_drewN | apply R_drew));exact (R_mono (R_far (p:=⟨gb15,0,none⟩) (R_types HO7.1 BK15.1 (by decide)) (fun _ hk=>hk.2) (.slice Ao43 t11.length co43)) (fun _ h_=>h_.1))))) (below_size hb_));have n4_:=kf_ BK1 NB1_15 hb;have n5_:=kf_ BK2 NB2_15 hb;have n6_:=a0_ (blk_below (g:=gb15) (o:=.cells #[.slice Ao43 t11.length co43] 37 (0,0)) (by (with_reducible repeat (first | refine blk_drewN ?_ _ | refine blk_drew ?_ | refine blk_alloc ?_ _));refine blk_put (cs:=#[.slice none 0 0]) ?_ 0 _ rfl;(with_reducible repeat (first | refine blk_drewN ?_ _ | refine blk_drew ?_ | refine blk_alloc ?_ _));exact BK15.1) hb);have n7_:=a0_ (below_step hb_ hb);clear HO7 HO10;clear HO13 BK1;clear BK2 BK15 HB;have HO7:=n0_;have HO10:=n1_;have HO13:=n2_;have HO18:=n3_;have BK1:=n4_;have BK2:=n5_;have BK15:=n6_;have HB:=n7_;clear n0_ n1_ n2_ n3_ n4_ n5_ n6_ n7_;(try clear hb);(try clear ho0)) | ((with_reducible refine gate_dst (N:=12) rfl ?_);refine box_event ?hg (N:=12) ?hd (cs:=#[.slice none 0 0]) (t:=33) ?hr ?_;(case hd=>rfl);(case hg=>rfl);(case hr=>first | (go_simp;done) | (go_simp;rfl));intro gb19 hg w48 hbox hb;have n0_:=rb_ HO7 hb;have n1_:=rb_ HO10 hb;have n2_:=rb_ HO13 hb;have n3_:=rb_ HO18 hb;have n4_:=kb_ BK1 hb;have n5_:=kb_ BK2 hb;have n6_:=kb_ BK15 hb;have n7_:=a0_ (below_step hb_ hb);have n8_:=a0_ (hbox);have n9_:=a0_ ((by rw [hg];exact (below_size hb_) : w.heap.size ≤ gb19));have n10_:=a0_ ((by rw [hg];exact (below_size hb_) : w.heap.size ≤ gb19));have n11_:=a0_ ((by rw [hg];exact Nat.ne_of_lt (blk_lt (bb_ BK1.1)) : gb1 ≠ gb19));have n12_:=a0_ ((by rw [hg];exact Nat.ne_of_gt (blk_lt (bb_ BK1.1)) : gb19 ≠ gb1));have n13_:=a0_ ((by rw [hg];exact Nat.ne_of_lt (blk_lt (bb_ BK2.1)) : gb2 ≠ gb19));have n14_:=a0_ ((by rw [hg];exact Nat.ne_of_gt (blk_lt (bb_ BK2.1)) : gb19 ≠ gb2));have n15_:=a0_ ((by rw [hg];exact Nat.ne_of_lt (blk_lt (bb_ BK15.1)) : gb15 ≠ gb19));have n16_:=a0_ ((by rw [hg];exact Nat.ne_of_gt (blk_lt (bb_ BK15.1)) : gb19 ≠ gb15));clear HO7 HO10;clear HO13 HO18;clear BK1 BK2;clear BK15 HB;have HO7:=n0_;have HO10:=n1_;have HO13:=n2_;have HO18:=n3_;have BK1:=n4_;have BK2:=n5_;have BK15:=n6_;have HB:=n7_;have BK19:=n8_;have GW19:=n9_;have GE19:=n10_;have NB1_19:=n11_;have NB19_1:=n12_;have NB2_19:=n13_;have NB19_2:=n14_;have NB15_19:=n15_;have NB19_15:=n16_;clear n0_ n1_ n2_ n3_ n4_ n5_ n6_ n7_ n8_ n9_ n10_ n11_ n12_ n13_ n14_ n15_ n16_;clear hb hbox hg;obtain ⟨Ao49,co49,eo49⟩:=R_slice HO18.1;subst eo49;have hnb50:=NB19_1.1;have hnc50:=NB1_19.1;have hnb51:=NB19_2.1;have hnc51:=NB2_19.1;have hnb52:=NB19_15.1;have hnc52:=NB15_19.1;have hcz53_0 : w48.cell? ⟨gb19,0,none⟩ = some (.slice none 0 0):=(blk_cell BK19.1 0).trans rfl;have hfz53_0:=blk_frozen BK19.1 0;have hnb54:=NB2_15.1;have hnc54:=NB15_2.1;have hcz55_0 : w48.cell? ⟨gb2,0,none⟩ = some (.slice A1_0 l1_0.length c1_0):=(blk_cell BK2.1 0).trans rfl;have hfz55_0:=blk_frozen BK2.1 0) | ((with_reducible refine gate_callee (f:=18) rfl ?_);refine goesL_ (some 44) rfl rfl Try.func18 (by kernel_rfl) rfl #[.agg #[.slice A1_0 l1_0.length c1_0]] rfl lm_ ?_;(with_reducible refine (laws_toHeap.calls k _ _ l1_0 t20 _ ?side1 ?side2 A25.1).mono ?_);(case side1=>exact C_below HR1_0.1 hb_);(case side2=>exact HC1_0.1);rintro e w56 ⟨v21,rfl,ho0,hb⟩;refine ⟨_,rfl,?_⟩;have n0_:=a0_ (R_below (by (with_reducible repeat (first | apply R_alloc | apply R_drewN | apply R_drew));exact (R_mono (R_far (p:=⟨gb19,0,none⟩) (R_types HO7.1 BK19.1 (by decide)) (fun _ hk=>hk.2) (.slice Ao49 t16.length co49)) (fun _ h_=>h_.1))) hb);have n1_:=a0_ (R_elder' (by (with_reducible repeat (first | apply R_alloc | apply R_drewN | apply R_drew));exact (R_mono (R_far (p:=⟨gb19,0,none⟩) (R_types HO10.1 BK19.1 (by decide)) (fun _ hk=>hk.2) (.slice Ao49 t16.length co49)) (fun _ h_=>h_.1))) (R_base ho0) hb);have n2_:=a0_ (R_elder' (by (with_reducible repeat (first | apply R_alloc | apply R_drewN | apply R_drew));exact (R_mono (R_far (p:=⟨gb19,0,none⟩) (R_types HO13.1 BK19.1 (by decide)) (fun _ hk=>hk.2) (.slice Ao49 t16.length co49)) (fun _ h_=>h_.1))) (R_base ho0) hb);have n3_:=a0_ (R_below (by (with_reducible repeat (first | apply R_alloc | apply R_drewN | apply R_drew));exact (R_mono (R_far (p:=⟨gb19,0,none⟩) (R_types HO18.1 BK19.1 (by decide)) (fun _ hk=>hk.2) (.slice Ao49 t16.length co49)) (fun _ h_=>h_.1))) hb);have n4_:=a0_ (R_lower (R_new' (R_new' ho0 (R_lt (by (with_reducible repeat (first | apply R_alloc | apply R_drewN | apply R_drew));exact (R_mono (R_far (p:=⟨gb19,0,none⟩) (R_types HO10.1 BK19.1 (by decide)) (fun _ hk=>hk.2) (.slice Ao49 t16.length co49)) (fun _ h_=>h_.1))))) (R_lt (by (with_reducible repeat (first | apply R_alloc | apply R_drewN | apply R_drew));exact (R_mono (R_far (p:=⟨gb19,0,none⟩) (R_types HO13.1 BK19.1 (by decide)) (fun _ hk=>hk.2) (.slice Ao49 t16.length co49)) (fun _ h_=>h_.1))))) (below_size hb_));have n5_:=kf_ BK1 NB1_19 hb;have n6_:=kf_ BK2 NB2_19 hb;have n7_:=kf_ BK15 NB15_19 hb;have n8_:=a0_ (blk_below (g:=gb19) (o:=.cells #[.slice Ao49 t16.length co49] 33 (0,0)) (by (with_reducible repeat (first | refine blk_drewN ?_ _ | refine blk_drew ?_ | refine blk_alloc ?_ _));refine blk_put (cs:=#[.slice none 0 0]) ?_ 0 _ rfl;(with_reducible repeat (first | refine blk_drewN ?_ _ | refine blk_drew ?_ | refine blk_alloc ?_ _));exact BK19.1) hb);have n9_:=a0_ (below_step hb_ hb);clear HO7 HO10;clear HO13 HO18;clear BK1 BK2;clear BK15 BK19 HB;have HO7:=n0_;have HO10:=n1_;have HO13:=n2_;have HO18:=n3_;have HO22:=n4_;have BK1:=n5_;have BK2:=n6_;have BK15:=n7_;have BK19:=n8_;have HB:=n9_;clear n0_ n1_ n2_ n3_ n4_ n5_ n6_ n7_ n8_ n9_;(try clear hb);(try clear ho0)) | ((with_reducible refine gate_dst (N:=13) rfl ?_);refine box_event ?hg (N:=13) ?hd (cs:=#[.slice none 0 0]) (t:=37) ?hr ?_;(case hd=>rfl);(case hg=>rfl);(case hr=>first | (go_simp;done) | (go_simp;rfl));intro gb23 hg w57 hbox hb;have n0_:=rb_ HO7 hb;have n1_:=rb_ HO10 hb;have n2_:=rb_ HO13 hb;have n3_:=rb_ HO18 hb;have n4_:=rb_ HO22 hb;have n5_:=kb_ BK1 hb;have n6_:=kb_ BK2 hb;have n7_:=kb_ BK15 hb;have n8_:=kb_ BK19 hb;have n9_:=a0_ (below_step hb_ hb);have n10_:=a0_ (hbox);have n11_:=a0_ ((by rw [hg];exact (below_size hb_) : w.heap.size ≤ gb23));have n12_:=a0_ ((by rw [hg];exact (below_size hb_) : w.heap.size ≤ gb23));have n13_:=a0_ ((by rw [hg];exact Nat.ne_of_lt (blk_lt (bb_ BK1.1)) : gb1 ≠ gb23));have n14_:=a0_ ((by rw [hg];exact Nat.ne_of_gt (blk_lt (bb_ BK1.1)) : gb23 ≠ gb1));have n15_:=a0_ ((by rw [hg];exact Nat.ne_of_lt (blk_lt (bb_ BK2.1)) : gb2 ≠ gb23));have n16_:=a0_ ((by rw [hg];exact Nat.ne_of_gt (blk_lt (bb_ BK2.1)) : gb23 ≠ gb2));have n17_:=a0_ ((by rw [hg];exact Nat.ne_of_lt (blk_lt (bb_ BK15.1)) : gb15 ≠ gb23));have n18_:=a0_ ((by rw [hg];exact Nat.ne_of_gt (blk_lt (bb_ BK15.1)) : gb23 ≠ gb15));have n19_:=a0_ ((by rw [hg];exact Nat.ne_of_lt (blk_lt (bb_ BK19.1)) : gb19 ≠ gb23));have n20_:=a0_ ((by rw [hg];exact Nat.ne_of_gt (blk_lt (bb_ BK19.1)) : gb23 ≠ gb19));clear HO7 HO10;clear HO13 HO18;clear HO22 BK1;clear BK2 BK15;clear BK19 HB;have HO7:=n0_;have HO10:=n1_;have HO13:=n2_;have HO18:=n3_;have HO22:=n4_;have BK1:=n5_;have BK2:=n6_;have BK15:=n7_;have BK19:=n8_;have HB:=n9_;have BK23:=n10_;have GW23:=n11_;have GE23:=n12_;have NB1_23:=n13_;have NB23_1:=n14_;have NB2_23:=n15_;have NB23_2:=n16_;have NB15_23:=n17_;have NB23_15:=n18_;have NB19_23:=n19_;have NB23_19:=n20_;clear n0_ n1_ n2_ n3_ n4_ n5_ n6_ n7_ n8_ n9_ n10_ n11_ n12_ n13_ n14_ n15_ n16_ n17_ n18_ n19_ n20_;clear hb hbox hg;obtain ⟨Ao58,co58,eo58⟩:=R_slice HO22.1;subst eo58;have hnb59:=NB23_1.1;have hnc59:=NB1_23.1;have hnb60:=NB23_2.1;have hnc60:=NB2_23.1;have hnb61:=NB23_15.1;have hnc61:=NB15_23.1;have hnb62:=NB23_19.1;have hnc62:=NB19_23.1;have hcz63_0 : w57.cell? ⟨gb23,0,none⟩ = some (.slice none 0 0):=(blk_cell BK23.1 0).trans rfl;have hfz63_0:=blk_frozen BK23.1 0;have hcz64_0 : w57.cell? ⟨gb19,0,none⟩ = some (.slice Ao49 t16.length co49):=(blk_cell BK19.1 0).trans rfl;have hfz64_0:=blk_frozen BK19.1 0) | ((with_reducible refine gate_callee (f:=43) rfl ?_);refine goesL_ (some 50) rfl rfl Try.func43 (by kernel_rfl) rfl #[.agg #[.slice Ao49 t16.length co49],.agg #[.slice Ao58 t20.length co58],.int .i64 a2,.int .i64 a3] rfl lm_ ?_;(with_reducible refine (impl_RaiseWhile.calls _ _ t16 _ _ t20 a2 a3 t24 t27 _ ?side1 ?side2 ?side3 ?side4 A26.1).mono ?_);(case side1=>refine (R_reads' (e:=106) (base:=w.heap.size) (ok:=fun k_=>(True ∧ some k_ ≠ (v6 : Value).ownBlock)) (n:=t16.length) (c:=co49) ?_).2.2;exact (by (with_reducible repeat (first | apply R_alloc | apply R_drewN | apply R_drew));exact (R_mono (R_far (p:=⟨gb23,0,none⟩) (R_types HO18.1 BK23.1 (by decide)) (fun _ hk=>hk.2) (.slice Ao58 t20.length co58)) (fun _ h_=>h_.1))));(case side2=>exact (R_reads' HO18.1).2.1);(case side3=>refine (R_reads' (e:=79) (base:=w.heap.size) (ok:=fun k_=>((True ∧ some k_ ≠ (v9 : Value).ownBlock) ∧ some k_ ≠ (.slice Ao43 t11.length co43 : Value).ownBlock)) (n:=t20.length) (c:=co58) ?_).2.2;exact (by (with_reducible repeat (first | apply R_alloc | apply R_drewN | apply R_drew));exact (R_mono (R_far (p:=⟨gb23,0,none⟩) (R_types HO22.1 BK23.1 (by decide)) (fun _ hk=>hk.2) (.slice Ao58 t20.length co58)) (fun _ h_=>h_.1))));(case side4=>exact (R_reads' HO22.1).2.1);rintro e w65 ⟨v25,rfl,ho0,hb⟩;refine ⟨_,rfl,?_⟩;have n0_:=a0_ (R_below (by (with_reducible repeat (first | apply R_alloc | apply R_drewN | apply R_drew));exact (R_mono (R_far (p:=⟨gb23,0,none⟩) (R_types HO7.1 BK23.1 (by decide)) (fun _ hk=>hk.2) (.slice Ao58 t20.length co58)) (fun _ h_=>h_.1))) hb);have n1_:=a0_ (R_elder' (by (with_reducible repeat (first | apply R_alloc | apply R_drewN | apply R_drew));exact (R_mono (R_far (p:=⟨gb23,0,none⟩) (R_types HO10.1 BK23.1 (by decide)) (fun _ hk=>hk.2) (.slice Ao58 t20.length co58)) (fun _ h_=>h_.1))) (R_base ho0) hb);have n2_:=a0_ (R_elder' (by (with_reducible repeat (first | apply R_alloc | apply R_drewN | apply R_drew));exact (R_mono (R_far (p:=⟨gb23,0,none⟩) (R_types HO13.1 BK23.1 (by decide)) (fun _ hk=>hk.2) (.slice Ao58 t20.length co58)) (fun _ h_=>h_.1))) (R_base ho0) hb);have n3_:=a0_ (R_below (by (with_reducible repeat (first | apply R_alloc | apply R_drewN | apply R_drew));exact (R_mono (R_far (p:=⟨gb23,0,none⟩) (R_types HO18.1 BK23.1 (by decide)) (fun _ hk=>hk.2) (.slice Ao58 t20.length co58)) (fun _ h_=>h_.1))) hb);have n4_:=a0_ (R_elder' (by (with_reducible repeat (first | apply R_alloc | apply R_drewN | apply R_drew));exact (R_mono (R_far (p:=⟨gb23,0,none⟩) (R_types HO22.1 BK23.1 (by decide)) (fun _ hk=>hk.2) (.slice Ao58 t20.length co58)) (fun _ h_=>h_.1))) (R_base ho0) hb);have n5_:=a0_ (R_lower (R_new' (R_new' (R_new' ho0 (R_lt (by (with_reducible repeat (first | apply R_alloc | apply R_drewN | apply R_drew));exact (R_mono (R_far (p:=⟨gb23,0,none⟩) (R_types HO10.1 BK23.1 (by decide)) (fun _ hk=>hk.2) (.slice Ao58 t20.length co58)) (fun _ h_=>h_.1))))) (R_lt (by (with_reducible repeat (first | apply R_alloc | apply R_drewN | apply R_drew));exact (R_mono (R_far (p:=⟨gb23,0,none⟩) (R_types HO13.1 BK23.1 (by decide)) (fun _ hk=>hk.2) (.slice Ao58 t20.length co58)) (fun _ h_=>h_.1))))) (R_lt (by (with_reducible repeat (first | apply R_alloc | apply R_drewN | apply R_drew));exact (R_mono (R_far (p:=⟨gb23,0,none⟩) (R_types HO22.1 BK23.1 (by decide)) (fun _ hk=>hk.2) (.slice Ao58 t20.length co58)) (fun _ h_=>h_.1))))) (below_size hb_));have n6_:=kf_ BK1 NB1_23 hb;have n7_:=kf_ BK2 NB2_23 hb;have n8_:=kf_ BK15 NB15_23 hb;have n9_:=kf_ BK19 NB19_23 hb;have n10_:=a0_ (blk_below (g:=gb23) (o:=.cells #[.slice Ao58 t20.length co58] 37 (0,0)) (by (with_reducible repeat (first | refine blk_drewN ?_ _ | refine blk_drew ?_ | refine blk_alloc ?_ _));refine blk_put (cs:=#[.slice none 0 0]) ?_ 0 _ rfl;(with_reducible repeat (first | refine blk_drewN ?_ _ | refine blk_drew ?_ | refine blk_alloc ?_ _));exact BK23.1) hb);have n11_:=a0_ (below_step hb_ hb);clear HO7 HO10;clear HO13 HO18;clear HO22 BK1;clear BK2 BK15;clear BK19 BK23 HB;have HO7:=n0_;have HO10:=n1_;have HO13:=n2_;have HO18:=n3_;have HO22:=n4_;have HO26:=n5_;have BK1:=n6_;have BK2:=n7_;have BK15:=n8_;have BK19:=n9_;have BK23:=n10_;have HB:=n11_;clear n0_ n1_ n2_ n3_ n4_ n5_ n6_ n7_ n8_ n9_ n10_ n11_;(try clear hb);(try clear ho0)) | ((with_reducible refine gate_dst (N:=14) rfl ?_);refine box_event ?hg (N:=14) ?hd (cs:=#[.slice none 0 0]) (t:=37) ?hr ?_;(case hd=>rfl);(case hg=>rfl);(case hr=>first | (go_simp;done) | (go_simp;rfl));intro gb28 hg w66 hbox hb;have n0_:=rb_ HO7 hb;have n1_:=rb_ HO10 hb;have n2_:=rb_ HO13 hb;have n3_:=rb_ HO18 hb;have n4_:=rb_ HO22 hb;have n5_:=rb_ HO26 hb;have n6_:=kb_ BK1 hb;have n7_:=kb_ BK2 hb;have n8_:=kb_ BK15 hb;have n9_:=kb_ BK19 hb;have n10_:=kb_ BK23 hb;have n11_:=a0_ (below_step hb_ hb);have n12_:=a0_ (hbox);have n13_:=a0_ ((by rw [hg];exact (below_size hb_) : w.heap.size ≤ gb28));have n14_:=a0_ ((by rw [hg];exact (below_size hb_) : w.heap.size ≤ gb28));have n15_:=a0_ ((by rw [hg];exact Nat.ne_of_lt (blk_lt (bb_ BK1.1)) : gb1 ≠ gb28));have n16_:=a0_ ((by rw [hg];exact Nat.ne_of_gt (blk_lt (bb_ BK1.1)) : gb28 ≠ gb1));have n17_:=a0_ ((by rw [hg];exact Nat.ne_of_lt (blk_lt (bb_ BK2.1)) : gb2 ≠ gb28));have n18_:=a0_ ((by rw [hg];exact Nat.ne_of_gt (blk_lt (bb_ BK2.1)) : gb28 ≠ gb2));have n19_:=a0_ ((by rw [hg];exact Nat.ne_of_lt (blk_lt (bb_ BK15.1)) : gb15 ≠ gb28));have n20_:=a0_ ((by rw [hg];exact Nat.ne_of_gt (blk_lt (bb_ BK15.1)) : gb28 ≠ gb15));have n21_:=a0_ ((by rw [hg];exact Nat.ne_of_lt (blk_lt (bb_ BK19.1)) : gb19 ≠ gb28));have n22_:=a0_ ((by rw [hg];exact Nat.ne_of_gt (blk_lt (bb_ BK19.1)) : gb28 ≠ gb19));have n23_:=a0_ ((by rw [hg];exact Nat.ne_of_lt (blk_lt (bb_ BK23.1)) : gb23 ≠ gb28));have n24_:=a0_ ((by rw [hg];exact Nat.ne_of_gt (blk_lt (bb_ BK23.1)) : gb28 ≠ gb23));clear HO7 HO10;clear HO13 HO18;clear HO22 HO26;clear BK1 BK2;clear BK15 BK19;clear BK23 HB;have HO7:=n0_;have HO10:=n1_;have HO13:=n2_;have HO18:=n3_;have HO22:=n4_;have HO26:=n5_;have BK1:=n6_;have BK2:=n7_;have BK15:=n8_;have BK19:=n9_;have BK23:=n10_;have HB:=n11_;have BK28:=n12_;have GW28:=n13_;have GE28:=n14_;have NB1_28:=n15_;have NB28_1:=n16_;have NB2_28:=n17_;have NB28_2:=n18_;have NB15_28:=n19_;have NB28_15:=n20_;have NB19_28:=n21_;have NB28_19:=n22_;have NB23_28:=n23_;have NB28_23:=n24_;clear n0_ n1_ n2_ n3_ n4_ n5_ n6_ n7_ n8_ n9_ n10_ n11_ n12_ n13_ n14_ n15_ n16_ n17_ n18_ n19_ n20_ n21_ n22_ n23_ n24_;clear hb hbox hg;obtain ⟨Ao67,co67,eo67⟩:=R_slice HO26.1;subst eo67;have hnb68:=NB28_1.1;have hnc68:=NB1_28.1;have hnb69:=NB28_2.1;have hnc69:=NB2_28.1;have hnb70:=NB28_15.1;have hnc70:=NB15_28.1;have hnb71:=NB28_19.1;have hnc71:=NB19_28.1;have hnb72:=NB28_23.1;have hnc72:=NB23_28.1;have hcz73_0 : w66.cell? ⟨gb28,0,none⟩ = some (.slice none 0 0):=(blk_cell BK28.1 0).trans rfl;have hfz73_0:=blk_frozen BK28.1 0))
   (try simp only [Act.put,s1_,s2_,s3_])
   go_cut [61] (fun v61 wc=>∃ (kq : Nat) (x61_26 : Bool),v61 = .bool x61_26 ∧ Aside0 (laws_FnExactRaiseWhile.j0 kq a2 a3 t14 t27 x61_26 l0_0 l1_0 t11 t16 t20 t24 = some r) ∧ Aside0 (kq ≤ k) ∧ Aside0 (Kd.R k79 79 wc w.heap.size (fun k_=>some k_ ≠ ((.slice Ao58 t20.length co58) : Value).ownBlock ∧ some k_ ≠ ((.slice Ao67 t24.length co67) : Value).ownBlock) (.slice Ao43 t11.length co43) t11) ∧ Aside0 (Kd.R k106 106 wc w.heap.size (fun _=>True) (.slice Ao49 t16.length co49) t16) ∧ Aside0 (Kd.R k79 79 wc w.heap.size (fun k_=>some k_ ≠ ((.slice Ao43 t11.length co43) : Value).ownBlock ∧ some k_ ≠ ((.slice Ao67 t24.length co67) : Value).ownBlock) (.slice Ao58 t20.length co58) t20) ∧ Aside0 (Kd.R k79 79 wc w.heap.size (fun k_=>some k_ ≠ ((.slice Ao43 t11.length co43) : Value).ownBlock ∧ some k_ ≠ ((.slice Ao58 t20.length co58) : Value).ownBlock) (.slice Ao67 t24.length co67) t24) ∧ Aside0 (wc.heap[gb1]? = some (.cells #[(.slice A0_0 l0_0.length c0_0)] 24 (0,0))) ∧ Aside0 (wc.heap[gb2]? = some (.cells #[(.slice A1_0 l1_0.length c1_0)] 27 (0,0))) ∧ Aside0 (wc.heap[gb15]? = some (.cells #[(.slice Ao43 t11.length co43)] 37 (0,0))) ∧ Aside0 (wc.heap[gb19]? = some (.cells #[(.slice Ao49 t16.length co49)] 33 (0,0))) ∧ Aside0 (wc.heap[gb23]? = some (.cells #[(.slice Ao58 t20.length co58)] 37 (0,0))) ∧ Aside0 (wc.heap[gb28]? = some (.cells #[(.slice Ao67 t24.length co67)] 37 (0,0))) ∧ Aside0 (Below w.heap.size w wc))
   case first =>
    have H:=HC27.1
    clear HC27
    replace H:=Option.bind_eq_some_iff.mp H
    obtain ⟨t29,A740,H⟩:=H
    replace H : (if t29 = true then (laws_FnExactRaiseWhile.j0 k a2 a3 t14 t27 (t27 != t14) l0_0 l1_0 t11 t16 t20 t24) else (laws_FnExactRaiseWhile.j0 k a2 a3 t14 t27 true l0_0 l1_0 t11 t16 t20 t24)) = some r:=H
    have A74:=a0_ A740
    clear A740
    by_cases c75 : t29 = true
    ·subst c75
     have H1 : (laws_FnExactRaiseWhile.j0 k a2 a3 t14 t27 (t27 != t14) l0_0 l1_0 t11 t16 t20 t24) = some r:=by rw [if_pos rfl] at H;exact H
     clear H
     have H:=H1
     clear H1
     have H':=a0_ H
     clear H
     have hnb76:=NB28_1.1
     have hnc76:=NB1_28.1
     have hnb77:=NB28_2.1
     have hnc77:=NB2_28.1
     have hnb78:=NB28_15.1
     have hnc78:=NB15_28.1
     have hnb79:=NB28_19.1
     have hnc79:=NB19_28.1
     have hnb80:=NB28_23.1
     have hnc80:=NB23_28.1
     have hcz81_0 : w66.cell? ⟨gb28,0,none⟩ = some (.slice none 0 0):=(blk_cell BK28.1 0).trans rfl
     have hfz81_0:=blk_frozen BK28.1 0
     have hnb82:=NB15_1.1
     have hnc82:=NB1_15.1
     have hnb83:=NB15_2.1
     have hnc83:=NB2_15.1
     have hnb84:=NB15_19.1
     have hnc84:=NB19_15.1
     have hnb85:=NB15_23.1
     have hnc85:=NB23_15.1
     have hcz86_0 : w66.cell? ⟨gb15,0,none⟩ = some (.slice Ao43 t11.length co43):=(blk_cell BK15.1 0).trans rfl
     have hfz86_0:=blk_frozen BK15.1 0
     go_wp2_with (first | ((with_reducible refine gate_callee (f:=21) rfl ?_);refine goesL_ (some 55) rfl rfl Try.func21 (by kernel_rfl) rfl #[.agg #[.slice Ao67 t24.length co67],.agg #[.slice Ao43 t11.length co43]] rfl lm_ ?_;(with_reducible refine (laws_eqHeap.calls k _ _ t24 _ _ t11 true _ ?side1 ?side2 ?side3 ?side4 A74.1).mono ?_);(case side1=>refine (R_reads' (e:=79) (base:=w.heap.size) (ok:=fun k_=>(((True ∧ some k_ ≠ (v9 : Value).ownBlock) ∧ some k_ ≠ (.slice Ao43 t11.length co43 : Value).ownBlock) ∧ some k_ ≠ (.slice Ao58 t20.length co58 : Value).ownBlock)) (n:=t24.length) (c:=co67) ?_).2.2;exact (by (with_reducible repeat (first | apply R_alloc | apply R_drewN | apply R_drew));exact (R_mono (R_far (p:=⟨gb28,0,none⟩) (R_types HO26.1 BK28.1 (by decide)) (fun _ hk=>hk.2) (.slice Ao67 t24.length co67)) (fun _ h_=>h_.1))));(case side2=>exact (R_reads' HO26.1).2.1);(case side3=>refine (R_reads' (e:=79) (base:=w.heap.size) (ok:=fun k_=>((some k_ ≠ (v9 : Value).ownBlock ∧ some k_ ≠ (.slice Ao58 t20.length co58 : Value).ownBlock) ∧ some k_ ≠ (.slice Ao67 t24.length co67 : Value).ownBlock)) (n:=t11.length) (c:=co43) ?_).2.2;exact (by (with_reducible repeat (first | apply R_alloc | apply R_drewN | apply R_drew));exact (R_mono (R_far (p:=⟨gb28,0,none⟩) (R_types HO13.1 BK28.1 (by decide)) (fun _ hk=>hk.2) (.slice Ao67 t24.length co67)) (fun _ h_=>h_.1))));(case side4=>exact (R_reads' HO13.1).2.1);rintro e w87 ⟨rfl,hb⟩;refine ⟨_,rfl,?_⟩;replace HO7:=a0_ (R_below (by (with_reducible repeat (first | apply R_alloc | apply R_drewN | apply R_drew));exact (R_mono (R_far (p:=⟨gb28,0,none⟩) (R_types HO7.1 BK28.1 (by decide)) (fun _ hk=>hk.2) (.slice Ao67 t24.length co67)) (fun _ h_=>h_.1))) hb);replace HO10:=a0_ (R_below (by (with_reducible repeat (first | apply R_alloc | apply R_drewN | apply R_drew));exact (R_mono (R_far (p:=⟨gb28,0,none⟩) (R_types HO10.1 BK28.1 (by decide)) (fun _ hk=>hk.2) (.slice Ao67 t24.length co67)) (fun _ h_=>h_.1))) hb);replace HO13:=a0_ (R_below (by (with_reducible repeat (first | apply R_alloc | apply R_drewN | apply R_drew));exact (R_mono (R_far (p:=⟨gb28,0,none⟩) (R_types HO13.1 BK28.1 (by decide)) (fun _ hk=>hk.2) (.slice Ao67 t24.length co67)) (fun _ h_=>h_.1))) hb);replace HO18:=a0_ (R_below (by (with_reducible repeat (first | apply R_alloc | apply R_drewN | apply R_drew));exact (R_mono (R_far (p:=⟨gb28,0,none⟩) (R_types HO18.1 BK28.1 (by decide)) (fun _ hk=>hk.2) (.slice Ao67 t24.length co67)) (fun _ h_=>h_.1))) hb);replace HO22:=a0_ (R_below (by (with_reducible repeat (first | apply R_alloc | apply R_drewN | apply R_drew));exact (R_mono (R_far (p:=⟨gb28,0,none⟩) (R_types HO22.1 BK28.1 (by decide)) (fun _ hk=>hk.2) (.slice Ao67 t24.length co67)) (fun _ h_=>h_.1))) hb);replace HO26:=a0_ (R_below (by (with_reducible repeat (first | apply R_alloc | apply R_drewN | apply R_drew));exact (R_mono (R_far (p:=⟨gb28,0,none⟩) (R_types HO26.1 BK28.1 (by decide)) (fun _ hk=>hk.2) (.slice Ao67 t24.length co67)) (fun _ h_=>h_.1))) hb);replace BK1:=kf_ BK1 NB1_28 hb;replace BK2:=kf_ BK2 NB2_28 hb;replace BK15:=kf_ BK15 NB15_28 hb;replace BK19:=kf_ BK19 NB19_28 hb;replace BK23:=kf_ BK23 NB23_28 hb;replace BK28:=a0_ (blk_below (g:=gb28) (o:=.cells #[.slice Ao67 t24.length co67] 37 (0,0)) (by (with_reducible repeat (first | refine blk_drewN ?_ _ | refine blk_drew ?_ | refine blk_alloc ?_ _));refine blk_put (cs:=#[.slice none 0 0]) ?_ 0 _ rfl;(with_reducible repeat (first | refine blk_drewN ?_ _ | refine blk_drew ?_ | refine blk_alloc ?_ _));exact BK28.1) hb);replace HB:=a0_ (below_step hb_ hb);(try clear hb);(try clear hb2);(try clear hk);(try clear hi)))
     go_meet
     case rel=>exact ⟨_,((t27 != t14)),(by first | rfl | (simp;done) | (simp [*];done)),H',⟨by first | omega | exact Nat.le_refl _⟩,⟨by (with_reducible repeat (first | apply R_alloc | apply R_drewN | apply R_drew));exact R_mono HO13.1 (fun _ hk=>⟨hk.1.2,hk.2⟩)⟩,⟨by (with_reducible repeat (first | apply R_alloc | apply R_drewN | apply R_drew));exact R_mono HO18.1 (fun _ hk=>trivial)⟩,⟨by (with_reducible repeat (first | apply R_alloc | apply R_drewN | apply R_drew));exact R_mono HO22.1 (fun _ hk=>⟨hk.1.2,hk.2⟩)⟩,⟨by (with_reducible repeat (first | apply R_alloc | apply R_drewN | apply R_drew));exact R_mono HO26.1 (fun _ hk=>⟨hk.1.2,hk.2⟩)⟩,⟨by (with_reducible repeat (first | refine blk_drewN ?_ _ | refine blk_drew ?_ | refine blk_alloc ?_ _));exact BK1.1⟩,⟨by (with_reducible repeat (first | refine blk_drewN ?_ _ | refine blk_drew ?_ | refine blk_alloc ?_ _));exact BK2.1⟩,⟨by (with_reducible repeat (first | refine blk_drewN ?_ _ | refine blk_drew ?_ | refine blk_alloc ?_ _));exact BK15.1⟩,⟨by (with_reducible repeat (first | refine blk_drewN ?_ _ | refine blk_drew ?_ | refine blk_alloc ?_ _));exact BK19.1⟩,⟨by (with_reducible repeat (first | refine blk_drewN ?_ _ | refine blk_drew ?_ | refine blk_alloc ?_ _));exact BK23.1⟩,⟨by (with_reducible repeat (first | refine blk_drewN ?_ _ | refine blk_drew ?_ | refine blk_alloc ?_ _));exact BK28.1⟩,⟨hb_⟩⟩
    ·replace c75:=Bool.eq_false_iff.mpr c75
     subst c75
     have H1 : (laws_FnExactRaiseWhile.j0 k a2 a3 t14 t27 true l0_0 l1_0 t11 t16 t20 t24) = some r:=by rw [if_neg (show ¬ (false = true) by decide)] at H;exact H
     clear H
     have H:=H1
     clear H1
     have H':=a0_ H
     clear H
     have hnb88:=NB28_1.1
     have hnc88:=NB1_28.1
     have hnb89:=NB28_2.1
     have hnc89:=NB2_28.1
     have hnb90:=NB28_15.1
     have hnc90:=NB15_28.1
     have hnb91:=NB28_19.1
     have hnc91:=NB19_28.1
     have hnb92:=NB28_23.1
     have hnc92:=NB23_28.1
     have hcz93_0 : w66.cell? ⟨gb28,0,none⟩ = some (.slice none 0 0):=(blk_cell BK28.1 0).trans rfl
     have hfz93_0:=blk_frozen BK28.1 0
     have hnb94:=NB15_1.1
     have hnc94:=NB1_15.1
     have hnb95:=NB15_2.1
     have hnc95:=NB2_15.1
     have hnb96:=NB15_19.1
     have hnc96:=NB19_15.1
     have hnb97:=NB15_23.1
     have hnc97:=NB23_15.1
     have hcz98_0 : w66.cell? ⟨gb15,0,none⟩ = some (.slice Ao43 t11.length co43):=(blk_cell BK15.1 0).trans rfl
     have hfz98_0:=blk_frozen BK15.1 0
     go_wp2_with (first | ((with_reducible refine gate_callee (f:=21) rfl ?_);refine goesL_ (some 55) rfl rfl Try.func21 (by kernel_rfl) rfl #[.agg #[.slice Ao67 t24.length co67],.agg #[.slice Ao43 t11.length co43]] rfl lm_ ?_;(with_reducible refine (laws_eqHeap.calls k _ _ t24 _ _ t11 false _ ?side1 ?side2 ?side3 ?side4 A74.1).mono ?_);(case side1=>refine (R_reads' (e:=79) (base:=w.heap.size) (ok:=fun k_=>(((True ∧ some k_ ≠ (v9 : Value).ownBlock) ∧ some k_ ≠ (.slice Ao43 t11.length co43 : Value).ownBlock) ∧ some k_ ≠ (.slice Ao58 t20.length co58 : Value).ownBlock)) (n:=t24.length) (c:=co67) ?_).2.2;exact (by (with_reducible repeat (first | apply R_alloc | apply R_drewN | apply R_drew));exact (R_mono (R_far (p:=⟨gb28,0,none⟩) (R_types HO26.1 BK28.1 (by decide)) (fun _ hk=>hk.2) (.slice Ao67 t24.length co67)) (fun _ h_=>h_.1))));(case side2=>exact (R_reads' HO26.1).2.1);(case side3=>refine (R_reads' (e:=79) (base:=w.heap.size) (ok:=fun k_=>((some k_ ≠ (v9 : Value).ownBlock ∧ some k_ ≠ (.slice Ao58 t20.length co58 : Value).ownBlock) ∧ some k_ ≠ (.slice Ao67 t24.length co67 : Value).ownBlock)) (n:=t11.length) (c:=co43) ?_).2.2;exact (by (with_reducible repeat (first | apply R_alloc | apply R_drewN | apply R_drew));exact (R_mono (R_far (p:=⟨gb28,0,none⟩) (R_types HO13.1 BK28.1 (by decide)) (fun _ hk=>hk.2) (.slice Ao67 t24.length co67)) (fun _ h_=>h_.1))));(case side4=>exact (R_reads' HO13.1).2.1);rintro e w99 ⟨rfl,hb⟩;refine ⟨_,rfl,?_⟩;replace HO7:=a0_ (R_below (by (with_reducible repeat (first | apply R_alloc | apply R_drewN | apply R_drew));exact (R_mono (R_far (p:=⟨gb28,0,none⟩) (R_types HO7.1 BK28.1 (by decide)) (fun _ hk=>hk.2) (.slice Ao67 t24.length co67)) (fun _ h_=>h_.1))) hb);replace HO10:=a0_ (R_below (by (with_reducible repeat (first | apply R_alloc | apply R_drewN | apply R_drew));exact (R_mono (R_far (p:=⟨gb28,0,none⟩) (R_types HO10.1 BK28.1 (by decide)) (fun _ hk=>hk.2) (.slice Ao67 t24.length co67)) (fun _ h_=>h_.1))) hb);replace HO13:=a0_ (R_below (by (with_reducible repeat (first | apply R_alloc | apply R_drewN | apply R_drew));exact (R_mono (R_far (p:=⟨gb28,0,none⟩) (R_types HO13.1 BK28.1 (by decide)) (fun _ hk=>hk.2) (.slice Ao67 t24.length co67)) (fun _ h_=>h_.1))) hb);replace HO18:=a0_ (R_below (by (with_reducible repeat (first | apply R_alloc | apply R_drewN | apply R_drew));exact (R_mono (R_far (p:=⟨gb28,0,none⟩) (R_types HO18.1 BK28.1 (by decide)) (fun _ hk=>hk.2) (.slice Ao67 t24.length co67)) (fun _ h_=>h_.1))) hb);replace HO22:=a0_ (R_below (by (with_reducible repeat (first | apply R_alloc | apply R_drewN | apply R_drew));exact (R_mono (R_far (p:=⟨gb28,0,none⟩) (R_types HO22.1 BK28.1 (by decide)) (fun _ hk=>hk.2) (.slice Ao67 t24.length co67)) (fun _ h_=>h_.1))) hb);replace HO26:=a0_ (R_below (by (with_reducible repeat (first | apply R_alloc | apply R_drewN | apply R_drew));exact (R_mono (R_far (p:=⟨gb28,0,none⟩) (R_types HO26.1 BK28.1 (by decide)) (fun _ hk=>hk.2) (.slice Ao67 t24.length co67)) (fun _ h_=>h_.1))) hb);replace BK1:=kf_ BK1 NB1_28 hb;replace BK2:=kf_ BK2 NB2_28 hb;replace BK15:=kf_ BK15 NB15_28 hb;replace BK19:=kf_ BK19 NB19_28 hb;replace BK23:=kf_ BK23 NB23_28 hb;replace BK28:=a0_ (blk_below (g:=gb28) (o:=.cells #[.slice Ao67 t24.length co67] 37 (0,0)) (by (with_reducible repeat (first | refine blk_drewN ?_ _ | refine blk_drew ?_ | refine blk_alloc ?_ _));refine blk_put (cs:=#[.slice none 0 0]) ?_ 0 _ rfl;(with_reducible repeat (first | refine blk_drewN ?_ _ | refine blk_drew ?_ | refine blk_alloc ?_ _));exact BK28.1) hb);replace HB:=a0_ (below_step hb_ hb);(try clear hb);(try clear hb2);(try clear hk);(try clear hi)))
     go_meet
     case rel=>exact ⟨_,(true),(by first | rfl | (simp;done) | (simp [*];done)),H',⟨by first | omega | exact Nat.le_refl _⟩,⟨by (with_reducible repeat (first | apply R_alloc | apply R_drewN | apply R_drew));exact R_mono HO13.1 (fun _ hk=>⟨hk.1.2,hk.2⟩)⟩,⟨by (with_reducible repeat (first | apply R_alloc | apply R_drewN | apply R_drew));exact R_mono HO18.1 (fun _ hk=>trivial)⟩,⟨by (with_reducible repeat (first | apply R_alloc | apply R_drewN | apply R_drew));exact R_mono HO22.1 (fun _ hk=>⟨hk.1.2,hk.2⟩)⟩,⟨by (with_reducible repeat (first | apply R_alloc | apply R_drewN | apply R_drew));exact R_mono HO26.1 (fun _ hk=>⟨hk.1.2,hk.2⟩)⟩,⟨by (with_reducible repeat (first | refine blk_drewN ?_ _ | refine blk_drew ?_ | refine blk_alloc ?_ _));exact BK1.1⟩,⟨by (with_reducible repeat (first | refine blk_drewN ?_ _ | refine blk_drew ?_ | refine blk_alloc ?_ _));exact BK2.1⟩,⟨by (with_reducible repeat (first | refine blk_drewN ?_ _ | refine blk_drew ?_ | refine blk_alloc ?_ _));exact BK15.1⟩,⟨by (with_reducible repeat (first | refine blk_drewN ?_ _ | refine blk_drew ?_ | refine blk_alloc ?_ _));exact BK19.1⟩,⟨by (with_reducible repeat (first | refine blk_drewN ?_ _ | refine blk_drew ?_ | refine blk_alloc ?_ _));exact BK23.1⟩,⟨by (with_reducible repeat (first | refine blk_drewN ?_ _ | refine blk_drew ?_ | refine blk_alloc ?_ _));exact BK28.1⟩,⟨hb_⟩⟩
   case rest =>
    clear HC27
    try clear c1
    try clear c2
    try clear p2
    try clear c4
    try clear c5
    try clear c6
    try clear c7
    try clear c8
    try clear c9
    try clear c17
    try clear c18
    try clear c21
    try clear c42
    try clear c43
    try clear c45
    try clear c50
    try clear c51
    try clear c52
    try clear c54
    try clear c59
    try clear c60
    try clear c61
    try clear c62
    try clear c68
    try clear c69
    try clear c70
    try clear c71
    try clear c72
    try clear c75
    try clear c76
    try clear c77
    try clear c78
    try clear c79
    try clear c80
    try clear c82
    try clear c83
    try clear c84
    try clear c85
    try clear c88
    try clear c89
    try clear c90
    try clear c91
    try clear c92
    try clear c94
    try clear c95
    try clear c96
    try clear c97
    try clear hcz46_0
    try clear hcz53_0
    try clear hcz55_0
    try clear hcz63_0
    try clear hcz64_0
    try clear hcz73_0
    try clear hcz81_0
    try clear hcz86_0
    try clear hcz93_0
    try clear hcz98_0
    try clear hfz46_0
    try clear hfz53_0
    try clear hfz55_0
    try clear hfz63_0
    try clear hfz64_0
    try clear hfz73_0
    try clear hfz81_0
    try clear hfz86_0
    try clear hfz93_0
    try clear hfz98_0
    obtain ⟨kq,x61_26,rfl,HA,HJ26,Z16,Z20,Z24,Z29,BK1,BK2,BK15,BK19,BK23,BK28,HB⟩:=hcut
    cases kq with
    | zero=>exact absurd HA.out (by simp [laws_FnExactRaiseWhile.j0])
    | succ kj26 =>
     have H:=HA.out
     clear HA
     simp only [laws_FnExactRaiseWhile.j0] at H
     by_cases c100 : x61_26 = true
     ·subst c100
      have H1 : (some false) = some r:=by rw [if_pos rfl] at H;exact H
      clear H
      have H:=H1
      clear H1
      obtain rfl:=Option.some.inj H
      go_wp2
      go_ret
      exact ⟨by first | rfl | (simp [errW_none,errW_some] <;> rfl) | (simp [*,errW_none,errW_some] <;> rfl),hb_⟩
     ·replace c100:=Bool.eq_false_iff.mpr c100
      subst c100
      have H1 : ((laws_toTree.f kj26 l0_0).bind fun t30=>((laws_eqTree.f kj26 t16 t30).bind fun t33=>(if t33 = true then ((laws_toHeap.f kj26 l1_0).bind fun t34=>((laws_eqHeap.f kj26 t20 t34).bind fun t37=>(if t37 = true then ((laws_markTree.f kj26 t16 1).bind fun bt38=>((laws_markHeap.f kj26 t20 bt38.1).bind fun bt40=>(if bt40.1 < 0 then (laws_FnExactRaiseWhile.j1 kj26 a2 a3 t14 true l0_0 l1_0 t11 t24) else ((laws_eqHeap.f kj26 t24 t11).bind fun t42=>(if t42 = true then (laws_FnExactRaiseWhile.j1 kj26 a2 a3 t14 (t27 != t14) l0_0 l1_0 t11 t24) else (laws_FnExactRaiseWhile.j1 kj26 a2 a3 t14 true l0_0 l1_0 t11 t24)))))) else (some false)))) else (some false)))) = some r:=by rw [if_neg (show ¬ (false = true) by decide)] at H;exact H
      clear H
      have H:=H1
      clear H1
      replace H:=Option.bind_eq_some_iff.mp H
      obtain ⟨t30,A1010,H⟩:=H
      replace H : ((laws_eqTree.f kj26 t16 t30).bind fun t33=>(if t33 = true then ((laws_toHeap.f kj26 l1_0).bind fun t34=>((laws_eqHeap.f kj26 t20 t34).bind fun t37=>(if t37 = true then ((laws_markTree.f kj26 t16 1).bind fun bt38=>((laws_markHeap.f kj26 t20 bt38.1).bind fun bt40=>(if bt40.1 < 0 then (laws_FnExactRaiseWhile.j1 kj26 a2 a3 t14 true l0_0 l1_0 t11 t24) else ((laws_eqHeap.f kj26 t24 t11).bind fun t42=>(if t42 = true then (laws_FnExactRaiseWhile.j1 kj26 a2 a3 t14 (t27 != t14) l0_0 l1_0 t11 t24) else (laws_FnExactRaiseWhile.j1 kj26 a2 a3 t14 true l0_0 l1_0 t11 t24)))))) else (some false)))) else (some false))) = some r:=H
      have A101:=a0_ A1010
      clear A1010
      replace H:=Option.bind_eq_some_iff.mp H
      obtain ⟨t33,A1020,H⟩:=H
      replace H : (if t33 = true then ((laws_toHeap.f kj26 l1_0).bind fun t34=>((laws_eqHeap.f kj26 t20 t34).bind fun t37=>(if t37 = true then ((laws_markTree.f kj26 t16 1).bind fun bt38=>((laws_markHeap.f kj26 t20 bt38.1).bind fun bt40=>(if bt40.1 < 0 then (laws_FnExactRaiseWhile.j1 kj26 a2 a3 t14 true l0_0 l1_0 t11 t24) else ((laws_eqHeap.f kj26 t24 t11).bind fun t42=>(if t42 = true then (laws_FnExactRaiseWhile.j1 kj26 a2 a3 t14 (t27 != t14) l0_0 l1_0 t11 t24) else (laws_FnExactRaiseWhile.j1 kj26 a2 a3 t14 true l0_0 l1_0 t11 t24)))))) else (some false)))) else (some false)) = some r:=H
      have A102:=a0_ A1020
      clear A1020
      by_cases c103 : t33 = true
      ·subst c103
       have H1 : ((laws_toHeap.f kj26 l1_0).bind fun t34=>((laws_eqHeap.f kj26 t20 t34).bind fun t37=>(if t37 = true then ((laws_markTree.f kj26 t16 1).bind fun bt38=>((laws_markHeap.f kj26 t20 bt38.1).bind fun bt40=>(if bt40.1 < 0 then (laws_FnExactRaiseWhile.j1 kj26 a2 a3 t14 true l0_0 l1_0 t11 t24) else ((laws_eqHeap.f kj26 t24 t11).bind fun t42=>(if t42 = true then (laws_FnExactRaiseWhile.j1 kj26 a2 a3 t14 (t27 != t14) l0_0 l1_0 t11 t24) else (laws_FnExactRaiseWhile.j1 kj26 a2 a3 t14 true l0_0 l1_0 t11 t24)))))) else (some false)))) = some r:=by rw [if_pos rfl] at H;exact H
       clear H
       have H:=H1
       clear H1
       replace H:=Option.bind_eq_some_iff.mp H
       obtain ⟨t34,A1040,H⟩:=H
       replace H : ((laws_eqHeap.f kj26 t20 t34).bind fun t37=>(if t37 = true then ((laws_markTree.f kj26 t16 1).bind fun bt38=>((laws_markHeap.f kj26 t20 bt38.1).bind fun bt40=>(if bt40.1 < 0 then (laws_FnExactRaiseWhile.j1 kj26 a2 a3 t14 true l0_0 l1_0 t11 t24) else ((laws_eqHeap.f kj26 t24 t11).bind fun t42=>(if t42 = true then (laws_FnExactRaiseWhile.j1 kj26 a2 a3 t14 (t27 != t14) l0_0 l1_0 t11 t24) else (laws_FnExactRaiseWhile.j1 kj26 a2 a3 t14 true l0_0 l1_0 t11 t24)))))) else (some false))) = some r:=H
       have A104:=a0_ A1040
       clear A1040
       replace H:=Option.bind_eq_some_iff.mp H
       obtain ⟨t37,A1050,H⟩:=H
       replace H : (if t37 = true then ((laws_markTree.f kj26 t16 1).bind fun bt38=>((laws_markHeap.f kj26 t20 bt38.1).bind fun bt40=>(if bt40.1 < 0 then (laws_FnExactRaiseWhile.j1 kj26 a2 a3 t14 true l0_0 l1_0 t11 t24) else ((laws_eqHeap.f kj26 t24 t11).bind fun t42=>(if t42 = true then (laws_FnExactRaiseWhile.j1 kj26 a2 a3 t14 (t27 != t14) l0_0 l1_0 t11 t24) else (laws_FnExactRaiseWhile.j1 kj26 a2 a3 t14 true l0_0 l1_0 t11 t24)))))) else (some false)) = some r:=H
       have A105:=a0_ A1050
       clear A1050
       by_cases c106 : t37 = true
       ·subst c106
        have H1 : ((laws_markTree.f kj26 t16 1).bind fun bt38=>((laws_markHeap.f kj26 t20 bt38.1).bind fun bt40=>(if bt40.1 < 0 then (laws_FnExactRaiseWhile.j1 kj26 a2 a3 t14 true l0_0 l1_0 t11 t24) else ((laws_eqHeap.f kj26 t24 t11).bind fun t42=>(if t42 = true then (laws_FnExactRaiseWhile.j1 kj26 a2 a3 t14 (t27 != t14) l0_0 l1_0 t11 t24) else (laws_FnExactRaiseWhile.j1 kj26 a2 a3 t14 true l0_0 l1_0 t11 t24)))))) = some r:=by rw [if_pos rfl] at H;exact H
        clear H
        have H:=H1
        clear H1
        replace H:=Option.bind_eq_some_iff.mp H
        obtain ⟨⟨t38,t39⟩,A1070,H⟩:=H
        replace H : ((laws_markHeap.f kj26 t20 t38).bind fun bt40=>(if bt40.1 < 0 then (laws_FnExactRaiseWhile.j1 kj26 a2 a3 t14 true l0_0 l1_0 t11 t24) else ((laws_eqHeap.f kj26 t24 t11).bind fun t42=>(if t42 = true then (laws_FnExactRaiseWhile.j1 kj26 a2 a3 t14 (t27 != t14) l0_0 l1_0 t11 t24) else (laws_FnExactRaiseWhile.j1 kj26 a2 a3 t14 true l0_0 l1_0 t11 t24))))) = some r:=H
        have A107:=a0_ A1070
        clear A1070
        replace H:=Option.bind_eq_some_iff.mp H
        obtain ⟨⟨t40,t41⟩,A1080,H⟩:=H
        replace H : (if t40 < 0 then (laws_FnExactRaiseWhile.j1 kj26 a2 a3 t14 true l0_0 l1_0 t11 t24) else ((laws_eqHeap.f kj26 t24 t11).bind fun t42=>(if t42 = true then (laws_FnExactRaiseWhile.j1 kj26 a2 a3 t14 (t27 != t14) l0_0 l1_0 t11 t24) else (laws_FnExactRaiseWhile.j1 kj26 a2 a3 t14 true l0_0 l1_0 t11 t24)))) = some r:=H
        have A108:=a0_ A1080
        clear A1080
        have HC109:=a0_ H
        clear H
        try go_wp2
        have n0_:=a0_ (R_drew Z16.out)
        have n1_:=a0_ (R_drew Z20.out)
        have n2_:=a0_ (R_drew Z24.out)
        have n3_:=a0_ (R_drew Z29.out)
        have n4_:=a0_ (blk_drew BK1.1)
        have n5_:=a0_ (blk_drew BK2.1)
        have n6_:=a0_ (blk_drew BK15.1)
        have n7_:=a0_ (blk_drew BK19.1)
        have n8_:=a0_ (blk_drew BK23.1)
        have n9_:=a0_ (blk_drew BK28.1)
        have n10_:=a0_ (below_drew1 HB.1)
        clear Z16
        clear Z20
        clear Z24
        clear Z29
        clear BK1
        clear BK2
        clear BK15
        clear BK19
        clear BK23
        clear BK28
        clear HB
        have Z16:=n0_
        have Z20:=n1_
        have Z24:=n2_
        have Z29:=n3_
        have BK1:=n4_
        have BK2:=n5_
        have BK15:=n6_
        have BK19:=n7_
        have BK23:=n8_
        have BK28:=n9_
        have HB:=n10_
        clear n0_ n1_ n2_ n3_ n4_ n5_ n6_ n7_ n8_ n9_ n10_
        refine start_ (n:=5) (S:=fun w'=>w'.cell? ⟨gb19,0,none⟩ = some (.slice Ao49 t16.length co49) ∧ w'.cell? ⟨gb1,0,none⟩ = some (.slice A0_0 l0_0.length c0_0)) (ds:=[]) #[false,false,false,false,false] (by kernel_rfl) rfl rfl ⟨(blk_cell BK19.1 0).trans rfl,(blk_cell BK1.1 0).trans rfl⟩ (fun hHeld=>?_)
        generalize wc.drew = w110 at Z16 Z20 Z24 Z29 BK1 BK2 BK15 BK19 BK23 BK28 HB hHeld ⊢
        refine take_ (i:=0) (N:=some 62) (v:=?_) (a':=?_) #[true,false,false,false,false] rfl rfl (by kernel_rfl) (fun _ _ _ h=>h) (Or.inl ⟨by rfl,?_⟩) hHeld ?_ ?_
        rotate_left
        ·rintro w' ⟨s0,s1⟩
         go_simp
         with_reducible rfl
        rotate_left
        ·simp only [Act.put,s1_,s2_,s3_,i64_w,i32_w]
         rfl
        refine take_ (i:=1) (N:=some 63) (v:=?_) (a':=?_) #[true,true,false,false,false] rfl rfl (by kernel_rfl) (fun _ _ _ h=>h) (Or.inl ⟨by rfl,?_⟩) hHeld ?_ ?_
        rotate_left
        ·rintro w' ⟨s0,s1⟩
         go_simp
         with_reducible rfl
        rotate_left
        ·simp only [Act.put,s1_,s2_,s3_,i64_w,i32_w]
         rfl
        refine one_ (i:=2) (N:=some 64) #[true,true,true,false,false] rfl rfl (by kernel_rfl) (by decide) (fun K hK=>?_)
        refine goes_ Try.func17 (by kernel_rfl) rfl #[.agg #[.slice A0_0 l0_0.length c0_0]] (by rfl) rfl rfl lm_ ?_
        with_reducible refine (laws_toTree.calls kj26 _ _ l0_0 t30 _ ?side1 ?side2 A101.1).mono ?_
        (case side1=>exact cc_ (C_below HR0_0.1 HB.1))
        (case side2=>exact HC0_0.1)
        rintro e w111 ⟨v31,rfl,ho0,hb⟩
        refine ⟨_,rfl,?_⟩
        have n0_:=rb_ Z16 hb
        have n1_:=a0_ (R_elder' (rr_ Z20.out) (R_base ho0) hb)
        have n2_:=rb_ Z24 hb
        have n3_:=rb_ Z29 hb
        have n4_:=a0_ (R_lower (R_new' ho0 (R_lt (rr_ Z20.out))) (below_size hb_))
        have n5_:=kb_ BK1 hb
        have n6_:=kb_ BK2 hb
        have n7_:=kb_ BK15 hb
        have n8_:=kb_ BK19 hb
        have n9_:=kb_ BK23 hb
        have n10_:=kb_ BK28 hb
        have n11_:=a0_ (below_step hb_ hb)
        clear Z16
        clear Z20
        clear Z24
        clear Z29
        clear BK1
        clear BK2
        clear BK15
        clear BK19
        clear BK23
        clear BK28
        clear HB
        have Z16:=n0_
        have Z20:=n1_
        have Z24:=n2_
        have Z29:=n3_
        have HO32:=n4_
        have BK1:=n5_
        have BK2:=n6_
        have BK15:=n7_
        have BK19:=n8_
        have BK23:=n9_
        have BK28:=n10_
        have HB:=n11_
        clear n0_ n1_ n2_ n3_ n4_ n5_ n6_ n7_ n8_ n9_ n10_ n11_
        (try clear hb)
        (try clear hb2)
        (try clear hk)
        (try clear hi)
        (try clear ho0)
        obtain ⟨Ao112,co112,eo112⟩:=R_slice HO32.1
        (first | subst eo112 | (injection eo112 with f1_ f2_ f3_;have f4_:=f1_.symm;have f5_:=f3_.symm;clear f1_ f2_ f3_;subst f4_;subst f5_))
        refine hK.out _ _ ⟨(blk_cell BK19.1 0).trans rfl,(blk_cell BK1.1 0).trans rfl⟩ (fun hHeld=>?_)
        clear hK K
        refine norm_ (a':=?_) ?_ ?_
        rotate_left
        ·show Act.put _ (some 64) _ = _
         simp only [Act.put,s1_,s2_,s3_,i64_w,i32_w]
         rfl
        refine one_ (i:=3) (N:=some 65) #[true,true,true,true,false] rfl rfl (by kernel_rfl) (by decide) (fun K hK=>?_)
        refine goes_ Try.func20 (by kernel_rfl) rfl #[.agg #[.slice Ao49 t16.length co49],.agg #[.slice Ao112 t30.length co112]] (by rfl) rfl rfl lm_ ?_
        with_reducible refine (laws_eqTree.calls kj26 _ _ t16 _ _ t30 true _ ?side1 ?side2 ?side3 ?side4 A102.1).mono ?_
        (case side1=>exact cc_ (R_reads' Z20.out).2.2)
        (case side2=>exact (R_reads' Z20.out).2.1)
        (case side3=>exact cc_ (R_reads' HO32.1).2.2)
        (case side4=>exact (R_reads' HO32.1).2.1)
        rintro e w113 ⟨rfl,hb⟩
        refine ⟨_,rfl,?_⟩
        have n0_:=rb_ Z16 hb
        have n1_:=rb_ Z20 hb
        have n2_:=rb_ Z24 hb
        have n3_:=rb_ Z29 hb
        have n4_:=rb_ HO32 hb
        have n5_:=kb_ BK1 hb
        have n6_:=kb_ BK2 hb
        have n7_:=kb_ BK15 hb
        have n8_:=kb_ BK19 hb
        have n9_:=kb_ BK23 hb
        have n10_:=kb_ BK28 hb
        have n11_:=a0_ (below_step hb_ hb)
        clear Z16
        clear Z20
        clear Z24
        clear Z29
        clear HO32
        clear BK1
        clear BK2
        clear BK15
        clear BK19
        clear BK23
        clear BK28
        clear HB
        have Z16:=n0_
        have Z20:=n1_
        have Z24:=n2_
        have Z29:=n3_
        have HO32:=n4_
        have BK1:=n5_
        have BK2:=n6_
        have BK15:=n7_
        have BK19:=n8_
        have BK23:=n9_
        have BK28:=n10_
        have HB:=n11_
        clear n0_ n1_ n2_ n3_ n4_ n5_ n6_ n7_ n8_ n9_ n10_ n11_
        (try clear hb)
        (try clear hb2)
        (try clear hk)
        (try clear hi)
        refine hK.out _ _ ⟨(blk_cell BK19.1 0).trans rfl,(blk_cell BK1.1 0).trans rfl⟩ (fun hHeld=>?_)
        clear hK K
        refine norm_ (a':=?_) ?_ ?_
        rotate_left
        ·show Act.put _ (some 65) _ = _
         simp only [Act.put,s1_,s2_,s3_,i64_w,i32_w]
         rfl
        refine pure_ (i:=4) (N:=some 66) (v:=?_) (a':=?_) #[true,true,true,true,true] rfl rfl (by kernel_rfl) (fun _ _ _ h=>h) (Or.inl ⟨by rfl,?_⟩) ?_ ?_
        rotate_left
        ·intro w'
         go_simp
         with_reducible rfl
        rotate_left
        ·simp only [Act.put,s1_,s2_,s3_,i64_w,i32_w]
         rfl
        refine done_ (by kernel_rfl) ?_
        try go_wp2
        have n0_:=a0_ (R_drew Z16.out)
        have n1_:=a0_ (R_drew Z20.out)
        have n2_:=a0_ (R_drew Z24.out)
        have n3_:=a0_ (R_drew Z29.out)
        have n4_:=a0_ (R_drew HO32.1)
        have n5_:=a0_ (blk_drew BK1.1)
        have n6_:=a0_ (blk_drew BK2.1)
        have n7_:=a0_ (blk_drew BK15.1)
        have n8_:=a0_ (blk_drew BK19.1)
        have n9_:=a0_ (blk_drew BK23.1)
        have n10_:=a0_ (blk_drew BK28.1)
        have n11_:=a0_ (below_drew1 HB.1)
        clear Z16
        clear Z20
        clear Z24
        clear Z29
        clear HO32
        clear BK1
        clear BK2
        clear BK15
        clear BK19
        clear BK23
        clear BK28
        clear HB
        have Z16:=n0_
        have Z20:=n1_
        have Z24:=n2_
        have Z29:=n3_
        have HO32:=n4_
        have BK1:=n5_
        have BK2:=n6_
        have BK15:=n7_
        have BK19:=n8_
        have BK23:=n9_
        have BK28:=n10_
        have HB:=n11_
        clear n0_ n1_ n2_ n3_ n4_ n5_ n6_ n7_ n8_ n9_ n10_ n11_
        refine start_ (n:=5) (S:=fun w'=>w'.cell? ⟨gb23,0,none⟩ = some (.slice Ao58 t20.length co58) ∧ w'.cell? ⟨gb2,0,none⟩ = some (.slice A1_0 l1_0.length c1_0)) (ds:=[]) #[false,false,false,false,false] (by kernel_rfl) rfl rfl ⟨(blk_cell BK23.1 0).trans rfl,(blk_cell BK2.1 0).trans rfl⟩ (fun hHeld=>?_)
        generalize w113.drew = w114 at Z16 Z20 Z24 Z29 HO32 BK1 BK2 BK15 BK19 BK23 BK28 HB hHeld ⊢
        refine take_ (i:=0) (N:=some 67) (v:=?_) (a':=?_) #[true,false,false,false,false] rfl rfl (by kernel_rfl) (fun _ _ _ h=>h) (Or.inl ⟨by rfl,?_⟩) hHeld ?_ ?_
        rotate_left
        ·rintro w' ⟨s0,s1⟩
         go_simp
         with_reducible rfl
        rotate_left
        ·simp only [Act.put,s1_,s2_,s3_,i64_w,i32_w]
         rfl
        refine take_ (i:=1) (N:=some 68) (v:=?_) (a':=?_) #[true,true,false,false,false] rfl rfl (by kernel_rfl) (fun _ _ _ h=>h) (Or.inl ⟨by rfl,?_⟩) hHeld ?_ ?_
        rotate_left
        ·rintro w' ⟨s0,s1⟩
         go_simp
         with_reducible rfl
        rotate_left
        ·simp only [Act.put,s1_,s2_,s3_,i64_w,i32_w]
         rfl
        refine one_ (i:=2) (N:=some 69) #[true,true,true,false,false] rfl rfl (by kernel_rfl) (by decide) (fun K hK=>?_)
        refine goes_ Try.func18 (by kernel_rfl) rfl #[.agg #[.slice A1_0 l1_0.length c1_0]] (by rfl) rfl rfl lm_ ?_
        with_reducible refine (laws_toHeap.calls kj26 _ _ l1_0 t34 _ ?side1 ?side2 A104.1).mono ?_
        (case side1=>exact cc_ (C_below HR1_0.1 HB.1))
        (case side2=>exact HC1_0.1)
        rintro e w115 ⟨v35,rfl,ho0,hb⟩
        refine ⟨_,rfl,?_⟩
        have n0_:=a0_ (R_elder' (rr_ Z16.out) (R_base ho0) hb)
        have n1_:=rb_ Z20 hb
        have n2_:=a0_ (R_elder' (rr_ Z24.out) (R_base ho0) hb)
        have n3_:=a0_ (R_elder' (rr_ Z29.out) (R_base ho0) hb)
        have n4_:=rb_ HO32 hb
        have n5_:=a0_ (R_lower (R_new' (R_new' (R_new' ho0 (R_lt (rr_ Z16.out))) (R_lt (rr_ Z24.out))) (R_lt (rr_ Z29.out))) (below_size hb_))
        have n6_:=kb_ BK1 hb
        have n7_:=kb_ BK2 hb
        have n8_:=kb_ BK15 hb
        have n9_:=kb_ BK19 hb
        have n10_:=kb_ BK23 hb
        have n11_:=kb_ BK28 hb
        have n12_:=a0_ (below_step hb_ hb)
        clear Z16
        clear Z20
        clear Z24
        clear Z29
        clear HO32
        clear BK1
        clear BK2
        clear BK15
        clear BK19
        clear BK23
        clear BK28
        clear HB
        have Z16:=n0_
        have Z20:=n1_
        have Z24:=n2_
        have Z29:=n3_
        have HO32:=n4_
        have HO36:=n5_
        have BK1:=n6_
        have BK2:=n7_
        have BK15:=n8_
        have BK19:=n9_
        have BK23:=n10_
        have BK28:=n11_
        have HB:=n12_
        clear n0_ n1_ n2_ n3_ n4_ n5_ n6_ n7_ n8_ n9_ n10_ n11_ n12_
        (try clear hb)
        (try clear hb2)
        (try clear hk)
        (try clear hi)
        (try clear ho0)
        obtain ⟨Ao116,co116,eo116⟩:=R_slice HO36.1
        (first | subst eo116 | (injection eo116 with f1_ f2_ f3_;have f4_:=f1_.symm;have f5_:=f3_.symm;clear f1_ f2_ f3_;subst f4_;subst f5_))
        refine hK.out _ _ ⟨(blk_cell BK23.1 0).trans rfl,(blk_cell BK2.1 0).trans rfl⟩ (fun hHeld=>?_)
        clear hK K
        refine norm_ (a':=?_) ?_ ?_
        rotate_left
        ·show Act.put _ (some 69) _ = _
         simp only [Act.put,s1_,s2_,s3_,i64_w,i32_w]
         rfl
        refine one_ (i:=3) (N:=some 70) #[true,true,true,true,false] rfl rfl (by kernel_rfl) (by decide) (fun K hK=>?_)
        refine goes_ Try.func21 (by kernel_rfl) rfl #[.agg #[.slice Ao58 t20.length co58],.agg #[.slice Ao116 t34.length co116]] (by rfl) rfl rfl lm_ ?_
        with_reducible refine (laws_eqHeap.calls kj26 _ _ t20 _ _ t34 true _ ?side1 ?side2 ?side3 ?side4 A105.1).mono ?_
        (case side1=>exact cc_ (R_reads' Z24.out).2.2)
        (case side2=>exact (R_reads' Z24.out).2.1)
        (case side3=>exact cc_ (R_reads' HO36.1).2.2)
        (case side4=>exact (R_reads' HO36.1).2.1)
        rintro e w117 ⟨rfl,hb⟩
        refine ⟨_,rfl,?_⟩
        have n0_:=rb_ Z16 hb
        have n1_:=rb_ Z20 hb
        have n2_:=rb_ Z24 hb
        have n3_:=rb_ Z29 hb
        have n4_:=rb_ HO32 hb
        have n5_:=rb_ HO36 hb
        have n6_:=kb_ BK1 hb
        have n7_:=kb_ BK2 hb
        have n8_:=kb_ BK15 hb
        have n9_:=kb_ BK19 hb
        have n10_:=kb_ BK23 hb
        have n11_:=kb_ BK28 hb
        have n12_:=a0_ (below_step hb_ hb)
        clear Z16
        clear Z20
        clear Z24
        clear Z29
        clear HO32
        clear HO36
        clear BK1
        clear BK2
        clear BK15
        clear BK19
        clear BK23
        clear BK28
        clear HB
        have Z16:=n0_
        have Z20:=n1_
        have Z24:=n2_
        have Z29:=n3_
        have HO32:=n4_
        have HO36:=n5_
        have BK1:=n6_
        have BK2:=n7_
        have BK15:=n8_
        have BK19:=n9_
        have BK23:=n10_
        have BK28:=n11_
        have HB:=n12_
        clear n0_ n1_ n2_ n3_ n4_ n5_ n6_ n7_ n8_ n9_ n10_ n11_ n12_
        (try clear hb)
        (try clear hb2)
        (try clear hk)
        (try clear hi)
        refine hK.out _ _ ⟨(blk_cell BK23.1 0).trans rfl,(blk_cell BK2.1 0).trans rfl⟩ (fun hHeld=>?_)
        clear hK K
        refine norm_ (a':=?_) ?_ ?_
        rotate_left
        ·show Act.put _ (some 70) _ = _
         simp only [Act.put,s1_,s2_,s3_,i64_w,i32_w]
         rfl
        refine pure_ (i:=4) (N:=some 71) (v:=?_) (a':=?_) #[true,true,true,true,true] rfl rfl (by kernel_rfl) (fun _ _ _ h=>h) (Or.inl ⟨by rfl,?_⟩) ?_ ?_
        rotate_left
        ·intro w'
         go_simp
         with_reducible rfl
        rotate_left
        ·simp only [Act.put,s1_,s2_,s3_,i64_w,i32_w]
         rfl
        refine done_ (by kernel_rfl) ?_
        have hnb118:=NB19_1.1
        have hnc118:=NB1_19.1
        have hnb119:=NB19_2.1
        have hnc119:=NB2_19.1
        have hnb120:=NB19_15.1
        have hnc120:=NB15_19.1
        have hnb121:=NB19_23.1
        have hnc121:=NB23_19.1
        have hnb122:=NB19_28.1
        have hnc122:=NB28_19.1
        have hcz123_0 : w117.cell? ⟨gb19,0,none⟩ = some (.slice Ao49 t16.length co49):=(blk_cell BK19.1 0).trans rfl
        have hfz123_0:=blk_frozen BK19.1 0
        go_upto_region 21 with (first | ((with_reducible refine gate_callee (f:=29) rfl ?_);refine goesL_ (some 74) rfl rfl Try.func29 (by kernel_rfl) rfl #[.agg #[.slice Ao49 t16.length co49],.int .i64 1] rfl lm_ ?_;(with_reducible refine (laws_markTree.calls kj26 (fun k_=>some k_ = (.slice Ao49 t16.length co49 : Value).ownBlock) (.slice Ao49 t16.length co49) t16 1 t38 t39 w _ ?side1 ?side2 A107.1).mono ?_);(case side1=>exact hb_);(case side2=>exact R_tight rfl Z20.out);rintro e w124 ⟨rfl,hy0,hb,hkp⟩;refine ⟨_,rfl,?_⟩;have n0_:=a0_ (R_mono (ok':=fun k_=>some k_ ≠ (.slice Ao58 t20.length co58 : Value).ownBlock ∧ some k_ ≠ (.slice Ao67 t24.length co67 : Value).ownBlock ∧ some k_ ≠ (.slice Ao116 t34.length co116 : Value).ownBlock) (R_keptB ((R_apart' Z16.out (R_typed Z20.out) (by decide))) hkp (fun k_ hk_ hs_=>(hk_.2) hs_)) (fun k_ hk_=>⟨hk_.1.1.1.1,hk_.1.1.1.2,hk_.1.1.2⟩));have n1_:=a0_ (R_reok rfl hy0 (fun k_ e_=>Z20.out.1 k_ e_));have n2_:=a0_ (R_mono (ok':=fun k_=>some k_ ≠ (.slice Ao43 t11.length co43 : Value).ownBlock ∧ some k_ ≠ (.slice Ao67 t24.length co67 : Value).ownBlock ∧ some k_ ≠ (.slice Ao116 t34.length co116 : Value).ownBlock) (R_keptB ((R_apart' Z24.out (R_typed Z20.out) (by decide))) hkp (fun k_ hk_ hs_=>(hk_.2) hs_)) (fun k_ hk_=>⟨hk_.1.1.1.1,hk_.1.1.1.2,hk_.1.1.2⟩));have n3_:=a0_ (R_mono (ok':=fun k_=>some k_ ≠ (.slice Ao43 t11.length co43 : Value).ownBlock ∧ some k_ ≠ (.slice Ao58 t20.length co58 : Value).ownBlock ∧ some k_ ≠ (.slice Ao116 t34.length co116 : Value).ownBlock) (R_keptB ((R_apart' Z29.out (R_typed Z20.out) (by decide))) hkp (fun k_ hk_ hs_=>(hk_.2) hs_)) (fun k_ hk_=>⟨hk_.1.1.1.1,hk_.1.1.1.2,hk_.1.1.2⟩));have n4_:=a0_ (blk_kept (bb_ BK1.1) hkp (fun hs_=>(fun e_=>(R_ne Z20.out BK1.1 (by decide)) e_) hs_));have n5_:=a0_ (blk_kept (bb_ BK2.1) hkp (fun hs_=>(fun e_=>(R_ne Z20.out BK2.1 (by decide)) e_) hs_));have n6_:=a0_ (blk_kept (bb_ BK15.1) hkp (fun hs_=>(fun e_=>(R_ne Z20.out BK15.1 (by decide)) e_) hs_));have n7_:=a0_ (blk_kept (bb_ BK19.1) hkp (fun hs_=>(fun e_=>(R_ne Z20.out BK19.1 (by decide)) e_) hs_));have n8_:=a0_ (blk_kept (bb_ BK23.1) hkp (fun hs_=>(fun e_=>(R_ne Z20.out BK23.1 (by decide)) e_) hs_));have n9_:=a0_ (blk_kept (bb_ BK28.1) hkp (fun hs_=>(fun e_=>(R_ne Z20.out BK28.1 (by decide)) e_) hs_));have n10_:=a0_ (R_mono (ok':=fun k_=>some k_ ≠ (.slice Ao49 t16.length co49 : Value).ownBlock) (R_keptB (HO32.1) hkp (fun k_ hk_ hs_=>(hk_.2) hs_)) (fun k_ hk_=>hk_.1.2));have n11_:=a0_ (R_mono (ok':=fun k_=>some k_ ≠ (.slice Ao43 t11.length co43 : Value).ownBlock ∧ some k_ ≠ (.slice Ao58 t20.length co58 : Value).ownBlock ∧ some k_ ≠ (.slice Ao67 t24.length co67 : Value).ownBlock) (R_keptB ((R_apart' HO36.1 (R_typed Z20.out) (by decide))) hkp (fun k_ hk_ hs_=>(hk_.2) hs_)) (fun k_ hk_=>⟨hk_.1.1.1.1.2,hk_.1.1.1.2,hk_.1.1.2⟩));have n12_:=a0_ (hb);clear Z16 Z20;clear Z24 Z29;clear BK1 BK2;clear BK15 BK19;clear BK23 BK28;clear HO32 HO36 HB;have Z16:=n0_;have Z20:=n1_;have Z24:=n2_;have Z29:=n3_;have BK1:=n4_;have BK2:=n5_;have BK15:=n6_;have BK19:=n7_;have BK23:=n8_;have BK28:=n9_;have HO32:=n10_;have HO36:=n11_;have HB:=n12_;clear n0_ n1_ n2_ n3_ n4_ n5_ n6_ n7_ n8_ n9_ n10_ n11_ n12_;(try clear hb);(try clear hkp);(try clear hy0);have hnb125:=NB23_1.1;have hnc125:=NB1_23.1;have hnb126:=NB23_2.1;have hnc126:=NB2_23.1;have hnb127:=NB23_15.1;have hnc127:=NB15_23.1;have hnb128:=NB23_28.1;have hnc128:=NB28_23.1;have hcz129_0 : w124.cell? ⟨gb23,0,none⟩ = some (.slice Ao58 t20.length co58):=(blk_cell BK23.1 0).trans rfl;have hfz129_0:=blk_frozen BK23.1 0) | ((with_reducible refine gate_callee (f:=30) rfl ?_);refine goesL_ (some 77) rfl rfl Try.func30 (by kernel_rfl) rfl #[.agg #[.slice Ao58 t20.length co58],.int .i64 t38] rfl lm_ ?_;(with_reducible refine (laws_markHeap.calls kj26 (fun k_=>some k_ = (.slice Ao58 t20.length co58 : Value).ownBlock) (.slice Ao58 t20.length co58) t20 t38 t40 t41 w _ ?side1 ?side2 A108.1).mono ?_);(case side1=>exact hb_);(case side2=>exact R_tight rfl Z24.out);rintro e w130 ⟨rfl,hy0,hb,hkp⟩;refine ⟨_,rfl,?_⟩;have n0_:=a0_ (R_mono (ok':=fun k_=>some k_ ≠ (.slice Ao58 t20.length co58 : Value).ownBlock ∧ some k_ ≠ (.slice Ao67 t24.length co67 : Value).ownBlock ∧ some k_ ≠ (.slice Ao116 t34.length co116 : Value).ownBlock) (R_keptB (Z16.out) hkp (fun k_ hk_ hs_=>(hk_.1) hs_)) (fun k_ hk_=>⟨hk_.1.1,hk_.1.2.1,hk_.1.2.2⟩));have n1_:=a0_ (R_mono (ok':=fun k_=>some k_ ≠ (.slice Ao112 t30.length co112 : Value).ownBlock) (R_keptB ((R_apart' Z20.out (R_typed Z24.out) (by decide))) hkp (fun k_ hk_ hs_=>(hk_.2) hs_)) (fun k_ hk_=>hk_.1.1.2));have n2_:=a0_ (R_reok rfl hy0 (fun k_ e_=>Z24.out.1 k_ e_));have n3_:=a0_ (R_mono (ok':=fun k_=>some k_ ≠ (.slice Ao43 t11.length co43 : Value).ownBlock ∧ some k_ ≠ (.slice Ao58 t20.length co58 : Value).ownBlock ∧ some k_ ≠ (.slice Ao116 t34.length co116 : Value).ownBlock) (R_keptB (Z29.out) hkp (fun k_ hk_ hs_=>(hk_.2.1) hs_)) (fun k_ hk_=>⟨hk_.1.1,hk_.1.2.1,hk_.1.2.2⟩));have n4_:=a0_ (blk_kept (bb_ BK1.1) hkp (fun hs_=>(fun e_=>(R_ne Z24.out BK1.1 (by decide)) e_) hs_));have n5_:=a0_ (blk_kept (bb_ BK2.1) hkp (fun hs_=>(fun e_=>(R_ne Z24.out BK2.1 (by decide)) e_) hs_));have n6_:=a0_ (blk_kept (bb_ BK15.1) hkp (fun hs_=>(fun e_=>(R_ne Z24.out BK15.1 (by decide)) e_) hs_));have n7_:=a0_ (blk_kept (bb_ BK19.1) hkp (fun hs_=>(fun e_=>(R_ne Z24.out BK19.1 (by decide)) e_) hs_));have n8_:=a0_ (blk_kept (bb_ BK23.1) hkp (fun hs_=>(fun e_=>(R_ne Z24.out BK23.1 (by decide)) e_) hs_));have n9_:=a0_ (blk_kept (bb_ BK28.1) hkp (fun hs_=>(fun e_=>(R_ne Z24.out BK28.1 (by decide)) e_) hs_));have n10_:=a0_ (R_mono (ok':=fun k_=>some k_ ≠ (.slice Ao49 t16.length co49 : Value).ownBlock) (R_keptB ((R_apart' HO32.1 (R_typed Z24.out) (by decide))) hkp (fun k_ hk_ hs_=>(hk_.2) hs_)) (fun k_ hk_=>hk_.1.1));have n11_:=a0_ (R_mono (ok':=fun k_=>some k_ ≠ (.slice Ao43 t11.length co43 : Value).ownBlock ∧ some k_ ≠ (.slice Ao58 t20.length co58 : Value).ownBlock ∧ some k_ ≠ (.slice Ao67 t24.length co67 : Value).ownBlock) (R_keptB (HO36.1) hkp (fun k_ hk_ hs_=>(hk_.2.1) hs_)) (fun k_ hk_=>⟨hk_.1.1,hk_.1.2.1,hk_.1.2.2⟩));have n12_:=a0_ (hb);clear Z16 Z20;clear Z24 Z29;clear BK1 BK2;clear BK15 BK19;clear BK23 BK28;clear HO32 HO36 HB;have Z16:=n0_;have Z20:=n1_;have Z24:=n2_;have Z29:=n3_;have BK1:=n4_;have BK2:=n5_;have BK15:=n6_;have BK19:=n7_;have BK23:=n8_;have BK28:=n9_;have HO32:=n10_;have HO36:=n11_;have HB:=n12_;clear n0_ n1_ n2_ n3_ n4_ n5_ n6_ n7_ n8_ n9_ n10_ n11_ n12_;(try clear hb);(try clear hkp);(try clear hy0)))
        (try simp only [Act.put,s1_,s2_,s3_])
        go_cut [90] (fun v90 wc=>∃ (kq : Nat) (x90_108 : Bool),v90 = .bool x90_108 ∧ Aside0 (laws_FnExactRaiseWhile.j1 kq a2 a3 t14 x90_108 l0_0 l1_0 t11 t24 = some r) ∧ Aside0 (kq ≤ kj26) ∧ Aside0 (Kd.R k79 79 wc w.heap.size (fun k_=>some k_ ≠ ((.slice Ao58 t20.length co58) : Value).ownBlock ∧ some k_ ≠ ((.slice Ao67 t24.length co67) : Value).ownBlock) (.slice Ao43 t11.length co43) t11) ∧ Aside0 (Kd.R k106 106 wc w.heap.size (fun _=>True) (.slice Ao49 t16.length co49) t39) ∧ Aside0 (Kd.R k79 79 wc w.heap.size (fun k_=>some k_ ≠ ((.slice Ao43 t11.length co43) : Value).ownBlock ∧ some k_ ≠ ((.slice Ao67 t24.length co67) : Value).ownBlock) (.slice Ao58 t20.length co58) t41) ∧ Aside0 (Kd.R k79 79 wc w.heap.size (fun k_=>some k_ ≠ ((.slice Ao43 t11.length co43) : Value).ownBlock ∧ some k_ ≠ ((.slice Ao58 t20.length co58) : Value).ownBlock) (.slice Ao67 t24.length co67) t24) ∧ Aside0 (wc.heap[gb1]? = some (.cells #[(.slice A0_0 l0_0.length c0_0)] 24 (0,0))) ∧ Aside0 (wc.heap[gb2]? = some (.cells #[(.slice A1_0 l1_0.length c1_0)] 27 (0,0))) ∧ Aside0 (wc.heap[gb15]? = some (.cells #[(.slice Ao43 t11.length co43)] 37 (0,0))) ∧ Aside0 (wc.heap[gb19]? = some (.cells #[(.slice Ao49 t16.length co49)] 33 (0,0))) ∧ Aside0 (wc.heap[gb23]? = some (.cells #[(.slice Ao58 t20.length co58)] 37 (0,0))) ∧ Aside0 (wc.heap[gb28]? = some (.cells #[(.slice Ao67 t24.length co67)] 37 (0,0))) ∧ Aside0 (Below w.heap.size w wc))
        case first =>
         have H:=HC109.1
         clear HC109
         by_cases c131 : t40 < 0
         ·rw [if_pos c131] at H
          have c131b0 : decide (t40 < 0) = true:=decide_eq_true c131
          clear c131
          (first | rw [c131b0] | (simp only [i64_w,i32_w];rw [c131b0]) | skip)
          have H':=a0_ H
          clear H
          go_wp2
          go_meet
          case rel=>exact ⟨_,(true),(by first | rfl | (simp;done) | (simp [*];done)),H',⟨by have:=HJ26.out;first | omega | exact Nat.le_refl _⟩,⟨by (with_reducible repeat (first | apply R_alloc | apply R_drewN | apply R_drew));exact R_mono Z16.out (fun _ hk=>⟨hk.1,hk.2.1⟩)⟩,⟨by (with_reducible repeat (first | apply R_alloc | apply R_drewN | apply R_drew));exact R_mono Z20.out (fun _ hk=>trivial)⟩,⟨by (with_reducible repeat (first | apply R_alloc | apply R_drewN | apply R_drew));exact R_mono Z24.out (fun _ hk=>⟨hk.1,hk.2.1⟩)⟩,⟨by (with_reducible repeat (first | apply R_alloc | apply R_drewN | apply R_drew));exact R_mono Z29.out (fun _ hk=>⟨hk.1,hk.2.1⟩)⟩,⟨by (with_reducible repeat (first | refine blk_drewN ?_ _ | refine blk_drew ?_ | refine blk_alloc ?_ _));exact BK1.1⟩,⟨by (with_reducible repeat (first | refine blk_drewN ?_ _ | refine blk_drew ?_ | refine blk_alloc ?_ _));exact BK2.1⟩,⟨by (with_reducible repeat (first | refine blk_drewN ?_ _ | refine blk_drew ?_ | refine blk_alloc ?_ _));exact BK15.1⟩,⟨by (with_reducible repeat (first | refine blk_drewN ?_ _ | refine blk_drew ?_ | refine blk_alloc ?_ _));exact BK19.1⟩,⟨by (with_reducible repeat (first | refine blk_drewN ?_ _ | refine blk_drew ?_ | refine blk_alloc ?_ _));exact BK23.1⟩,⟨by (with_reducible repeat (first | refine blk_drewN ?_ _ | refine blk_drew ?_ | refine blk_alloc ?_ _));exact BK28.1⟩,⟨hb_⟩⟩
         ·rw [if_neg c131] at H
          have c131b0 : decide (t40 < 0) = false:=decide_eq_false c131
          clear c131
          (first | rw [c131b0] | (simp only [i64_w,i32_w];rw [c131b0]) | skip)
          replace H:=Option.bind_eq_some_iff.mp H
          obtain ⟨t42,A1320,H⟩:=H
          replace H : (if t42 = true then (laws_FnExactRaiseWhile.j1 kj26 a2 a3 t14 (t27 != t14) l0_0 l1_0 t11 t24) else (laws_FnExactRaiseWhile.j1 kj26 a2 a3 t14 true l0_0 l1_0 t11 t24)) = some r:=H
          have A132:=a0_ A1320
          clear A1320
          by_cases c133 : t42 = true
          ·subst c133
           have H1 : (laws_FnExactRaiseWhile.j1 kj26 a2 a3 t14 (t27 != t14) l0_0 l1_0 t11 t24) = some r:=by rw [if_pos rfl] at H;exact H
           clear H
           have H:=H1
           clear H1
           have H':=a0_ H
           clear H
           have hnb134:=NB28_1.1
           have hnc134:=NB1_28.1
           have hnb135:=NB28_2.1
           have hnc135:=NB2_28.1
           have hnb136:=NB28_15.1
           have hnc136:=NB15_28.1
           have hnb137:=NB28_19.1
           have hnc137:=NB19_28.1
           have hnb138:=NB28_23.1
           have hnc138:=NB23_28.1
           have hcz139_0 : w130.cell? ⟨gb28,0,none⟩ = some (.slice Ao67 t24.length co67):=(blk_cell BK28.1 0).trans rfl
           have hfz139_0:=blk_frozen BK28.1 0
           have hnb140:=NB15_1.1
           have hnc140:=NB1_15.1
           have hnb141:=NB15_2.1
           have hnc141:=NB2_15.1
           have hnb142:=NB15_19.1
           have hnc142:=NB19_15.1
           have hnb143:=NB15_23.1
           have hnc143:=NB23_15.1
           have hcz144_0 : w130.cell? ⟨gb15,0,none⟩ = some (.slice Ao43 t11.length co43):=(blk_cell BK15.1 0).trans rfl
           have hfz144_0:=blk_frozen BK15.1 0
           go_wp2_with (first | (go_at_call 21;(with_reducible refine (laws_eqHeap.calls kj26 _ _ t24 _ _ t11 true _ ?side1 ?side2 ?side3 ?side4 A132.1).mono ?_);(case side1=>exact cc_ (R_reads' Z29.out).2.2);(case side2=>exact (R_reads' Z29.out).2.1);(case side3=>exact cc_ (R_reads' Z16.out).2.2);(case side4=>exact (R_reads' Z16.out).2.1);rintro e w145 ⟨rfl,hb⟩;replace Z16:=rb_ Z16 hb;replace Z20:=rb_ Z20 hb;replace Z24:=rb_ Z24 hb;replace Z29:=rb_ Z29 hb;replace HO32:=rb_ HO32 hb;replace HO36:=rb_ HO36 hb;replace BK1:=kb_ BK1 hb;replace BK2:=kb_ BK2 hb;replace BK15:=kb_ BK15 hb;replace BK19:=kb_ BK19 hb;replace BK23:=kb_ BK23 hb;replace BK28:=kb_ BK28 hb;replace HB:=a0_ (below_step hb_ hb);(try clear hb);(try clear hb2);(try clear hk);(try clear hi)))
           go_meet
           case rel=>exact ⟨_,((t27 != t14)),(by first | rfl | (simp;done) | (simp [*];done)),H',⟨by have:=HJ26.out;first | omega | exact Nat.le_refl _⟩,⟨by (with_reducible repeat (first | apply R_alloc | apply R_drewN | apply R_drew));exact R_mono Z16.out (fun _ hk=>⟨hk.1,hk.2.1⟩)⟩,⟨by (with_reducible repeat (first | apply R_alloc | apply R_drewN | apply R_drew));exact R_mono Z20.out (fun _ hk=>trivial)⟩,⟨by (with_reducible repeat (first | apply R_alloc | apply R_drewN | apply R_drew));exact R_mono Z24.out (fun _ hk=>⟨hk.1,hk.2.1⟩)⟩,⟨by (with_reducible repeat (first | apply R_alloc | apply R_drewN | apply R_drew));exact R_mono Z29.out (fun _ hk=>⟨hk.1,hk.2.1⟩)⟩,⟨by (with_reducible repeat (first | refine blk_drewN ?_ _ | refine blk_drew ?_ | refine blk_alloc ?_ _));exact BK1.1⟩,⟨by (with_reducible repeat (first | refine blk_drewN ?_ _ | refine blk_drew ?_ | refine blk_alloc ?_ _));exact BK2.1⟩,⟨by (with_reducible repeat (first | refine blk_drewN ?_ _ | refine blk_drew ?_ | refine blk_alloc ?_ _));exact BK15.1⟩,⟨by (with_reducible repeat (first | refine blk_drewN ?_ _ | refine blk_drew ?_ | refine blk_alloc ?_ _));exact BK19.1⟩,⟨by (with_reducible repeat (first | refine blk_drewN ?_ _ | refine blk_drew ?_ | refine blk_alloc ?_ _));exact BK23.1⟩,⟨by (with_reducible repeat (first | refine blk_drewN ?_ _ | refine blk_drew ?_ | refine blk_alloc ?_ _));exact BK28.1⟩,⟨hb_⟩⟩
          ·replace c133:=Bool.eq_false_iff.mpr c133
           subst c133
           have H1 : (laws_FnExactRaiseWhile.j1 kj26 a2 a3 t14 true l0_0 l1_0 t11 t24) = some r:=by rw [if_neg (show ¬ (false = true) by decide)] at H;exact H
           clear H
           have H:=H1
           clear H1
           have H':=a0_ H
           clear H
           have hnb146:=NB28_1.1
           have hnc146:=NB1_28.1
           have hnb147:=NB28_2.1
           have hnc147:=NB2_28.1
           have hnb148:=NB28_15.1
           have hnc148:=NB15_28.1
           have hnb149:=NB28_19.1
           have hnc149:=NB19_28.1
           have hnb150:=NB28_23.1
           have hnc150:=NB23_28.1
           have hcz151_0 : w130.cell? ⟨gb28,0,none⟩ = some (.slice Ao67 t24.length co67):=(blk_cell BK28.1 0).trans rfl
           have hfz151_0:=blk_frozen BK28.1 0
           have hnb152:=NB15_1.1
           have hnc152:=NB1_15.1
           have hnb153:=NB15_2.1
           have hnc153:=NB2_15.1
           have hnb154:=NB15_19.1
           have hnc154:=NB19_15.1
           have hnb155:=NB15_23.1
           have hnc155:=NB23_15.1
           have hcz156_0 : w130.cell? ⟨gb15,0,none⟩ = some (.slice Ao43 t11.length co43):=(blk_cell BK15.1 0).trans rfl
           have hfz156_0:=blk_frozen BK15.1 0
           go_wp2_with (first | (go_at_call 21;(with_reducible refine (laws_eqHeap.calls kj26 _ _ t24 _ _ t11 false _ ?side1 ?side2 ?side3 ?side4 A132.1).mono ?_);(case side1=>exact cc_ (R_reads' Z29.out).2.2);(case side2=>exact (R_reads' Z29.out).2.1);(case side3=>exact cc_ (R_reads' Z16.out).2.2);(case side4=>exact (R_reads' Z16.out).2.1);rintro e w157 ⟨rfl,hb⟩;replace Z16:=rb_ Z16 hb;replace Z20:=rb_ Z20 hb;replace Z24:=rb_ Z24 hb;replace Z29:=rb_ Z29 hb;replace HO32:=rb_ HO32 hb;replace HO36:=rb_ HO36 hb;replace BK1:=kb_ BK1 hb;replace BK2:=kb_ BK2 hb;replace BK15:=kb_ BK15 hb;replace BK19:=kb_ BK19 hb;replace BK23:=kb_ BK23 hb;replace BK28:=kb_ BK28 hb;replace HB:=a0_ (below_step hb_ hb);(try clear hb);(try clear hb2);(try clear hk);(try clear hi)))
           go_meet
           case rel=>exact ⟨_,(true),(by first | rfl | (simp;done) | (simp [*];done)),H',⟨by have:=HJ26.out;first | omega | exact Nat.le_refl _⟩,⟨by (with_reducible repeat (first | apply R_alloc | apply R_drewN | apply R_drew));exact R_mono Z16.out (fun _ hk=>⟨hk.1,hk.2.1⟩)⟩,⟨by (with_reducible repeat (first | apply R_alloc | apply R_drewN | apply R_drew));exact R_mono Z20.out (fun _ hk=>trivial)⟩,⟨by (with_reducible repeat (first | apply R_alloc | apply R_drewN | apply R_drew));exact R_mono Z24.out (fun _ hk=>⟨hk.1,hk.2.1⟩)⟩,⟨by (with_reducible repeat (first | apply R_alloc | apply R_drewN | apply R_drew));exact R_mono Z29.out (fun _ hk=>⟨hk.1,hk.2.1⟩)⟩,⟨by (with_reducible repeat (first | refine blk_drewN ?_ _ | refine blk_drew ?_ | refine blk_alloc ?_ _));exact BK1.1⟩,⟨by (with_reducible repeat (first | refine blk_drewN ?_ _ | refine blk_drew ?_ | refine blk_alloc ?_ _));exact BK2.1⟩,⟨by (with_reducible repeat (first | refine blk_drewN ?_ _ | refine blk_drew ?_ | refine blk_alloc ?_ _));exact BK15.1⟩,⟨by (with_reducible repeat (first | refine blk_drewN ?_ _ | refine blk_drew ?_ | refine blk_alloc ?_ _));exact BK19.1⟩,⟨by (with_reducible repeat (first | refine blk_drewN ?_ _ | refine blk_drew ?_ | refine blk_alloc ?_ _));exact BK23.1⟩,⟨by (with_reducible repeat (first | refine blk_drewN ?_ _ | refine blk_drew ?_ | refine blk_alloc ?_ _));exact BK28.1⟩,⟨hb_⟩⟩
        case rest =>
         clear HC109
         try clear c1
         try clear c2
         try clear p2
         try clear c3
         try clear c4
         try clear c5
         try clear c6
         try clear c7
         try clear c8
         try clear c9
         try clear c10
         try clear c11
         try clear c12
         try clear c13
         try clear c14
         try clear c15
         try clear c17
         try clear c18
         try clear c20
         try clear c21
         try clear c29
         try clear c30
         try clear c42
         try clear c43
         try clear c45
         try clear c50
         try clear c51
         try clear c52
         try clear c54
         try clear c59
         try clear c60
         try clear c61
         try clear c62
         try clear c68
         try clear c69
         try clear c70
         try clear c71
         try clear c72
         try clear c75
         try clear c76
         try clear c77
         try clear c78
         try clear c79
         try clear c80
         try clear c82
         try clear c83
         try clear c84
         try clear c85
         try clear c88
         try clear c89
         try clear c90
         try clear c91
         try clear c92
         try clear c94
         try clear c95
         try clear c96
         try clear c97
         try clear c100
         try clear c103
         try clear c106
         try clear c118
         try clear c119
         try clear c120
         try clear c121
         try clear c122
         try clear c125
         try clear c126
         try clear c127
         try clear c128
         try clear c131
         try clear c131b0
         try clear c133
         try clear c134
         try clear c135
         try clear c136
         try clear c137
         try clear c138
         try clear c140
         try clear c141
         try clear c142
         try clear c143
         try clear c146
         try clear c147
         try clear c148
         try clear c149
         try clear c150
         try clear c152
         try clear c153
         try clear c154
         try clear c155
         try clear hcz123_0
         try clear hcz129_0
         try clear hcz139_0
         try clear hcz144_0
         try clear hcz151_0
         try clear hcz156_0
         try clear hcz46_0
         try clear hcz53_0
         try clear hcz55_0
         try clear hcz63_0
         try clear hcz64_0
         try clear hcz73_0
         try clear hcz81_0
         try clear hcz86_0
         try clear hcz93_0
         try clear hcz98_0
         try clear hfz123_0
         try clear hfz129_0
         try clear hfz139_0
         try clear hfz144_0
         try clear hfz151_0
         try clear hfz156_0
         try clear hfz46_0
         try clear hfz53_0
         try clear hfz55_0
         try clear hfz63_0
         try clear hfz64_0
         try clear hfz73_0
         try clear hfz81_0
         try clear hfz86_0
         try clear hfz93_0
         try clear hfz98_0
         try clear p2
         obtain ⟨kq,x90_108,rfl,HA,HJ108,Z16,Z20,Z24,Z29,BK1,BK2,BK15,BK19,BK23,BK28,HB⟩:=hcut
         have hl20000_108:=(R_reads' Z20.out).1
         rw [hl20000_108] at Z20
         (try simp only [hl20000_108])
         (try simp only [hl20000_108] at BK1)
         (try simp only [hl20000_108] at BK2)
         (try simp only [hl20000_108] at BK15)
         (try simp only [hl20000_108] at BK19)
         (try simp only [hl20000_108] at BK23)
         (try simp only [hl20000_108] at BK28)
         (try simp only [hl20000_108] at Z16)
         (try simp only [hl20000_108] at Z24)
         (try simp only [hl20000_108] at Z29)
         have hl24000_108:=(R_reads' Z24.out).1
         rw [hl24000_108] at Z24
         (try simp only [hl24000_108])
         (try simp only [hl24000_108] at BK1)
         (try simp only [hl24000_108] at BK2)
         (try simp only [hl24000_108] at BK15)
         (try simp only [hl24000_108] at BK19)
         (try simp only [hl24000_108] at BK23)
         (try simp only [hl24000_108] at BK28)
         (try simp only [hl24000_108] at Z16)
         (try simp only [hl24000_108] at Z20)
         (try simp only [hl24000_108] at Z29)
         cases kq with
         | zero=>exact absurd HA.out (by simp [laws_FnExactRaiseWhile.j1])
         | succ kj108 =>
          have H:=HA.out
          clear HA
          simp only [laws_FnExactRaiseWhile.j1] at H
          by_cases c158 : x90_108 = true
          ·subst c158
           have H1 : (some false) = some r:=by rw [if_pos rfl] at H;exact H
           clear H
           have H:=H1
           clear H1
           obtain rfl:=Option.some.inj H
           go_wp2
           go_ret
           exact ⟨by first | rfl | (simp [errW_none,errW_some] <;> rfl) | (simp [*,errW_none,errW_some] <;> rfl),hb_⟩
          ·replace c158:=Bool.eq_false_iff.mpr c158
           subst c158
           have H1 : ((laws_markHeap.f kj108 t24 1).bind fun bt43=>((laws_heldHeap.f kj108 bt43.2 1).bind fun t45=>(if t45 < 0 then (some false) else (if t45 = bt43.1 then ((laws_toTree.f kj108 l0_0).bind fun t46=>((laws_toHeap.f kj108 l1_0).bind fun t49=>((impl_RaiseWhile.f t46 t49 a2 a3).bind fun bt52=>((laws_eqHeap.f kj108 bt52.1 t11).bind fun t57=>(if t57 = true then (laws_FnExactRaiseWhile.j2 kj108 bt43.1 (bt52.2 != t14) bt43.2) else (laws_FnExactRaiseWhile.j2 kj108 bt43.1 true bt43.2)))))) else (some false))))) = some r:=by rw [if_neg (show ¬ (false = true) by decide)] at H;exact H
           clear H
           have H:=H1
           clear H1
           replace H:=Option.bind_eq_some_iff.mp H
           obtain ⟨⟨t43,t44⟩,A1590,H⟩:=H
           replace H : ((laws_heldHeap.f kj108 t44 1).bind fun t45=>(if t45 < 0 then (some false) else (if t45 = t43 then ((laws_toTree.f kj108 l0_0).bind fun t46=>((laws_toHeap.f kj108 l1_0).bind fun t49=>((impl_RaiseWhile.f t46 t49 a2 a3).bind fun bt52=>((laws_eqHeap.f kj108 bt52.1 t11).bind fun t57=>(if t57 = true then (laws_FnExactRaiseWhile.j2 kj108 t43 (bt52.2 != t14) t44) else (laws_FnExactRaiseWhile.j2 kj108 t43 true t44)))))) else (some false)))) = some r:=H
           have A159:=a0_ A1590
           clear A1590
           replace H:=Option.bind_eq_some_iff.mp H
           obtain ⟨t45,A1600,H⟩:=H
           replace H : (if t45 < 0 then (some false) else (if t45 = t43 then ((laws_toTree.f kj108 l0_0).bind fun t46=>((laws_toHeap.f kj108 l1_0).bind fun t49=>((impl_RaiseWhile.f t46 t49 a2 a3).bind fun bt52=>((laws_eqHeap.f kj108 bt52.1 t11).bind fun t57=>(if t57 = true then (laws_FnExactRaiseWhile.j2 kj108 t43 (bt52.2 != t14) t44) else (laws_FnExactRaiseWhile.j2 kj108 t43 true t44)))))) else (some false))) = some r:=H
           have A160:=a0_ A1600
           clear A1600
           by_cases c161 : t45 < 0
           ·rw [if_pos c161] at H
            have c161b0 : decide (t45 < 0) = true:=decide_eq_true c161
            clear c161
            obtain rfl:=Option.some.inj H
            have hnb162:=NB28_1.1
            have hnc162:=NB1_28.1
            have hnb163:=NB28_2.1
            have hnc163:=NB2_28.1
            have hnb164:=NB28_15.1
            have hnc164:=NB15_28.1
            have hnb165:=NB28_19.1
            have hnc165:=NB19_28.1
            have hnb166:=NB28_23.1
            have hnc166:=NB23_28.1
            have hcz167_0 : wc.cell? ⟨gb28,0,none⟩ = some (.slice Ao67 t24.length co67):=(blk_cell BK28.1 0).trans rfl
            have hfz167_0:=blk_frozen BK28.1 0
            go_wp2_with (first | ((with_reducible refine gate_callee (f:=30) rfl ?_);refine goesL_ (some 93) rfl rfl Try.func30 (by kernel_rfl) rfl #[.agg #[.slice Ao67 t24.length co67],.int .i64 1] rfl lm_ ?_;(with_reducible refine (laws_markHeap.calls kj108 (fun k_=>some k_ = (.slice Ao67 t24.length co67 : Value).ownBlock) (.slice Ao67 t24.length co67) t24 1 t43 t44 w _ ?side1 ?side2 A159.1).mono ?_);(case side1=>exact hb_);(case side2=>exact R_tight rfl Z29.out);rintro e w168 ⟨rfl,hy0,hb,hkp⟩;refine ⟨_,rfl,?_⟩;have n0_:=a0_ (R_mono (ok':=fun k_=>some k_ ≠ (.slice Ao58 t41.length co58 : Value).ownBlock ∧ some k_ ≠ (.slice Ao67 t24.length co67 : Value).ownBlock) (R_keptB (Z16.out) hkp (fun k_ hk_ hs_=>(hk_.2) hs_)) (fun k_ hk_=>⟨hk_.1.1,hk_.1.2⟩));have n1_:=a0_ (R_mono (ok':=fun k_=>True) (R_keptB ((R_apart' Z20.out (R_typed Z29.out) (by decide))) hkp (fun k_ hk_ hs_=>(hk_.2) hs_)) (fun k_ hk_=>trivial));have n2_:=a0_ (R_mono (ok':=fun k_=>some k_ ≠ (.slice Ao43 t11.length co43 : Value).ownBlock ∧ some k_ ≠ (.slice Ao67 t24.length co67 : Value).ownBlock) (R_keptB (Z24.out) hkp (fun k_ hk_ hs_=>(hk_.2) hs_)) (fun k_ hk_=>⟨hk_.1.1,hk_.1.2⟩));have n3_:=a0_ (R_reok rfl hy0 (fun k_ e_=>Z29.out.1 k_ e_));have n4_:=a0_ (blk_kept (bb_ BK1.1) hkp (fun hs_=>(fun e_=>(R_ne Z29.out BK1.1 (by decide)) e_) hs_));have n5_:=a0_ (blk_kept (bb_ BK2.1) hkp (fun hs_=>(fun e_=>(R_ne Z29.out BK2.1 (by decide)) e_) hs_));have n6_:=a0_ (blk_kept (bb_ BK15.1) hkp (fun hs_=>(fun e_=>(R_ne Z29.out BK15.1 (by decide)) e_) hs_));have n7_:=a0_ (blk_kept (bb_ BK19.1) hkp (fun hs_=>(fun e_=>(R_ne Z29.out BK19.1 (by decide)) e_) hs_));have n8_:=a0_ (blk_kept (bb_ BK23.1) hkp (fun hs_=>(fun e_=>(R_ne Z29.out BK23.1 (by decide)) e_) hs_));have n9_:=a0_ (blk_kept (bb_ BK28.1) hkp (fun hs_=>(fun e_=>(R_ne Z29.out BK28.1 (by decide)) e_) hs_));have n10_:=a0_ (hb);clear Z16 Z20;clear Z24 Z29;clear BK1 BK2;clear BK15 BK19;clear BK23 BK28 HB;have Z16:=n0_;have Z20:=n1_;have Z24:=n2_;have Z29:=n3_;have BK1:=n4_;have BK2:=n5_;have BK15:=n6_;have BK19:=n7_;have BK23:=n8_;have BK28:=n9_;have HB:=n10_;clear n0_ n1_ n2_ n3_ n4_ n5_ n6_ n7_ n8_ n9_ n10_;(try clear hb);(try clear hkp);(try clear hy0);have hcz169_0 : w168.cell? ⟨gb28,0,none⟩ = some (.slice Ao67 t24.length co67):=(blk_cell BK28.1 0).trans rfl;have hfz169_0:=blk_frozen BK28.1 0) | ((with_reducible refine gate_callee (f:=37) rfl ?_);refine goesL_ (some 96) rfl rfl Try.func37 (by kernel_rfl) rfl #[.agg #[.slice Ao67 t44.length co67],.int .i64 1] rfl (by (try simp only [List.map_toArray,List.map_cons,List.map_nil]);first | done | (rw [show t44.length = t24.length from (R_reads' Z29.out).1.symm] <;> rfl) | rfl | (simp only [List.length_drop,List.length_take];rfl)) ?_;(with_reducible refine (laws_heldHeap.calls kj108 _ _ t44 1 t45 _ ?side1 ?side2 A160.1).mono ?_);(case side1=>exact cc_ (R_reads' Z29.out).2.2);(case side2=>rw [show t44.length = t24.length from (R_reads' Z29.out).1.symm];exact (R_reads' Z29.out).2.1);rintro e w170 ⟨rfl,hb⟩;refine ⟨_,rfl,?_⟩;replace Z16:=rb_ Z16 hb;replace Z20:=rb_ Z20 hb;replace Z24:=rb_ Z24 hb;replace Z29:=rb_ Z29 hb;replace BK1:=kb_ BK1 hb;replace BK2:=kb_ BK2 hb;replace BK15:=kb_ BK15 hb;replace BK19:=kb_ BK19 hb;replace BK23:=kb_ BK23 hb;replace BK28:=kb_ BK28 hb;replace HB:=a0_ (below_step hb_ hb);(try clear hb);(try clear hb2);(try clear hk);(try clear hi)))
            go_ret
            exact ⟨by first | rfl | (simp [errW_none,errW_some] <;> rfl) | (simp [*,errW_none,errW_some] <;> rfl),hb_⟩
           ·rw [if_neg c161] at H
            have c161b0 : decide (t45 < 0) = false:=decide_eq_false c161
            clear c161
            by_cases c171 : t45 = t43
            ·rw [if_pos c171] at H
             have c171b0 : (t45 == t43) = true:=beq_iff_eq.mpr c171
             have c171b1 : (t45 != t43) = false:=bne_eq_false_iff_eq.mpr c171
             clear c171
             replace H:=Option.bind_eq_some_iff.mp H
             obtain ⟨t46,A1720,H⟩:=H
             replace H : ((laws_toHeap.f kj108 l1_0).bind fun t49=>((impl_RaiseWhile.f t46 t49 a2 a3).bind fun bt52=>((laws_eqHeap.f kj108 bt52.1 t11).bind fun t57=>(if t57 = true then (laws_FnExactRaiseWhile.j2 kj108 t43 (bt52.2 != t14) t44) else (laws_FnExactRaiseWhile.j2 kj108 t43 true t44))))) = some r:=H
             have A172:=a0_ A1720
             clear A1720
             replace H:=Option.bind_eq_some_iff.mp H
             obtain ⟨t49,A1730,H⟩:=H
             replace H : ((impl_RaiseWhile.f t46 t49 a2 a3).bind fun bt52=>((laws_eqHeap.f kj108 bt52.1 t11).bind fun t57=>(if t57 = true then (laws_FnExactRaiseWhile.j2 kj108 t43 (bt52.2 != t14) t44) else (laws_FnExactRaiseWhile.j2 kj108 t43 true t44)))) = some r:=H
             have A173:=a0_ A1730
             clear A1730
             replace H:=Option.bind_eq_some_iff.mp H
             obtain ⟨⟨t52,t55⟩,A1740,H⟩:=H
             replace H : ((laws_eqHeap.f kj108 t52 t11).bind fun t57=>(if t57 = true then (laws_FnExactRaiseWhile.j2 kj108 t43 (t55 != t14) t44) else (laws_FnExactRaiseWhile.j2 kj108 t43 true t44))) = some r:=H
             have A174:=a0_ A1740
             clear A1740
             have HC175:=a0_ H
             clear H
             have hnb176:=NB28_1.1
             have hnc176:=NB1_28.1
             have hnb177:=NB28_2.1
             have hnc177:=NB2_28.1
             have hnb178:=NB28_15.1
             have hnc178:=NB15_28.1
             have hnb179:=NB28_19.1
             have hnc179:=NB19_28.1
             have hnb180:=NB28_23.1
             have hnc180:=NB23_28.1
             have hcz181_0 : wc.cell? ⟨gb28,0,none⟩ = some (.slice Ao67 t24.length co67):=(blk_cell BK28.1 0).trans rfl
             have hfz181_0:=blk_frozen BK28.1 0
             try go_wp2_with (first | ((with_reducible refine gate_callee (f:=30) rfl ?_);refine goesL_ (some 93) rfl rfl Try.func30 (by kernel_rfl) rfl #[.agg #[.slice Ao67 t24.length co67],.int .i64 1] rfl lm_ ?_;(with_reducible refine (laws_markHeap.calls kj108 (fun k_=>some k_ = (.slice Ao67 t24.length co67 : Value).ownBlock) (.slice Ao67 t24.length co67) t24 1 t43 t44 w _ ?side1 ?side2 A159.1).mono ?_);(case side1=>exact hb_);(case side2=>exact R_tight rfl Z29.out);rintro e w182 ⟨rfl,hy0,hb,hkp⟩;refine ⟨_,rfl,?_⟩;have n0_:=a0_ (R_mono (ok':=fun k_=>some k_ ≠ (.slice Ao58 t41.length co58 : Value).ownBlock ∧ some k_ ≠ (.slice Ao67 t24.length co67 : Value).ownBlock) (R_keptB (Z16.out) hkp (fun k_ hk_ hs_=>(hk_.2) hs_)) (fun k_ hk_=>⟨hk_.1.1,hk_.1.2⟩));have n1_:=a0_ (R_mono (ok':=fun k_=>True) (R_keptB ((R_apart' Z20.out (R_typed Z29.out) (by decide))) hkp (fun k_ hk_ hs_=>(hk_.2) hs_)) (fun k_ hk_=>trivial));have n2_:=a0_ (R_mono (ok':=fun k_=>some k_ ≠ (.slice Ao43 t11.length co43 : Value).ownBlock ∧ some k_ ≠ (.slice Ao67 t24.length co67 : Value).ownBlock) (R_keptB (Z24.out) hkp (fun k_ hk_ hs_=>(hk_.2) hs_)) (fun k_ hk_=>⟨hk_.1.1,hk_.1.2⟩));have n3_:=a0_ (R_reok rfl hy0 (fun k_ e_=>Z29.out.1 k_ e_));have n4_:=a0_ (blk_kept (bb_ BK1.1) hkp (fun hs_=>(fun e_=>(R_ne Z29.out BK1.1 (by decide)) e_) hs_));have n5_:=a0_ (blk_kept (bb_ BK2.1) hkp (fun hs_=>(fun e_=>(R_ne Z29.out BK2.1 (by decide)) e_) hs_));have n6_:=a0_ (blk_kept (bb_ BK15.1) hkp (fun hs_=>(fun e_=>(R_ne Z29.out BK15.1 (by decide)) e_) hs_));have n7_:=a0_ (blk_kept (bb_ BK19.1) hkp (fun hs_=>(fun e_=>(R_ne Z29.out BK19.1 (by decide)) e_) hs_));have n8_:=a0_ (blk_kept (bb_ BK23.1) hkp (fun hs_=>(fun e_=>(R_ne Z29.out BK23.1 (by decide)) e_) hs_));have n9_:=a0_ (blk_kept (bb_ BK28.1) hkp (fun hs_=>(fun e_=>(R_ne Z29.out BK28.1 (by decide)) e_) hs_));have n10_:=a0_ (hb);clear Z16 Z20;clear Z24 Z29;clear BK1 BK2;clear BK15 BK19;clear BK23 BK28 HB;have Z16:=n0_;have Z20:=n1_;have Z24:=n2_;have Z29:=n3_;have BK1:=n4_;have BK2:=n5_;have BK15:=n6_;have BK19:=n7_;have BK23:=n8_;have BK28:=n9_;have HB:=n10_;clear n0_ n1_ n2_ n3_ n4_ n5_ n6_ n7_ n8_ n9_ n10_;(try clear hb);(try clear hkp);(try clear hy0);have hcz183_0 : w182.cell? ⟨gb28,0,none⟩ = some (.slice Ao67 t24.length co67):=(blk_cell BK28.1 0).trans rfl;have hfz183_0:=blk_frozen BK28.1 0) | ((with_reducible refine gate_callee (f:=37) rfl ?_);refine goesL_ (some 96) rfl rfl Try.func37 (by kernel_rfl) rfl #[.agg #[.slice Ao67 t44.length co67],.int .i64 1] rfl (by (try simp only [List.map_toArray,List.map_cons,List.map_nil]);first | done | (rw [show t44.length = t24.length from (R_reads' Z29.out).1.symm] <;> rfl) | rfl | (simp only [List.length_drop,List.length_take];rfl)) ?_;(with_reducible refine (laws_heldHeap.calls kj108 _ _ t44 1 t45 _ ?side1 ?side2 A160.1).mono ?_);(case side1=>exact cc_ (R_reads' Z29.out).2.2);(case side2=>rw [show t44.length = t24.length from (R_reads' Z29.out).1.symm];exact (R_reads' Z29.out).2.1);rintro e w184 ⟨rfl,hb⟩;refine ⟨_,rfl,?_⟩;replace Z16:=rb_ Z16 hb;replace Z20:=rb_ Z20 hb;replace Z24:=rb_ Z24 hb;replace Z29:=rb_ Z29 hb;replace BK1:=kb_ BK1 hb;replace BK2:=kb_ BK2 hb;replace BK15:=kb_ BK15 hb;replace BK19:=kb_ BK19 hb;replace BK23:=kb_ BK23 hb;replace BK28:=kb_ BK28 hb;replace HB:=a0_ (below_step hb_ hb);(try clear hb);(try clear hb2);(try clear hk);(try clear hi)))
             have n0_:=a0_ (R_drew Z16.out)
             have n1_:=a0_ (R_drew Z20.out)
             have n2_:=a0_ (R_drew Z24.out)
             have n3_:=a0_ (R_drew Z29.out)
             have n4_:=a0_ (blk_drew BK1.1)
             have n5_:=a0_ (blk_drew BK2.1)
             have n6_:=a0_ (blk_drew BK15.1)
             have n7_:=a0_ (blk_drew BK19.1)
             have n8_:=a0_ (blk_drew BK23.1)
             have n9_:=a0_ (blk_drew BK28.1)
             have n10_:=a0_ (below_drew1 HB.1)
             clear Z16
             clear Z20
             clear Z24
             clear Z29
             clear BK1
             clear BK2
             clear BK15
             clear BK19
             clear BK23
             clear BK28
             clear HB
             have Z16:=n0_
             have Z20:=n1_
             have Z24:=n2_
             have Z29:=n3_
             have BK1:=n4_
             have BK2:=n5_
             have BK15:=n6_
             have BK19:=n7_
             have BK23:=n8_
             have BK28:=n9_
             have HB:=n10_
             clear n0_ n1_ n2_ n3_ n4_ n5_ n6_ n7_ n8_ n9_ n10_
             refine start_ (n:=13) (S:=fun w'=>w'.cell? ⟨gb1,0,none⟩ = some (.slice A0_0 l0_0.length c0_0) ∧ w'.cell? ⟨gb2,0,none⟩ = some (.slice A1_0 l1_0.length c1_0)) (ds:=[]) #[false,false,false,false,false,false,false,false,false,false,false,false,false] (by kernel_rfl) rfl rfl ⟨(blk_cell BK1.1 0).trans rfl,(blk_cell BK2.1 0).trans rfl⟩ (fun hHeld=>?_);refine with_tabW laws_FnExactRaiseWhile.tab31 laws_FnExactRaiseWhile.bits31 (fun HT_ HW_=>?_)
             generalize w184.drew = w185 at Z16 Z20 Z24 Z29 BK1 BK2 BK15 BK19 BK23 BK28 HB hHeld ⊢
             refine pure_ (i:=4) (N:=some 107) (v:=?_) (a':=?_) #[false,false,false,false,true,false,false,false,false,false,false,false,false] rfl rfl (any_of HT_.out (by kernel_rfl)) (fun _ _ _ h=>h) (Or.inl ⟨by rfl,?_⟩) ?_ ?_
             rotate_left
             ·intro w'
              go_simp
              with_reducible rfl
             rotate_left
             ·simp only [Act.put,s1_,s2_,s3_,i64_w,i32_w]
              rfl
             refine pure_ (i:=5) (N:=some 108) (v:=?_) (a':=?_) #[false,false,false,false,true,true,false,false,false,false,false,false,false] rfl rfl (any_of HT_.out (by kernel_rfl)) (fun _ _ _ h=>h) (Or.inl ⟨by rfl,?_⟩) ?_ ?_
             rotate_left
             ·intro w'
              go_simp
              with_reducible rfl
             rotate_left
             ·simp only [Act.put,s1_,s2_,s3_,i64_w,i32_w]
              rfl
             refine take_ (i:=0) (N:=some 103) (v:=?_) (a':=?_) #[true,false,false,false,true,true,false,false,false,false,false,false,false] rfl rfl (take_ofW HT_.out HW_.out (by kernel_rfl)) (fun _ _ _ h=>h) (Or.inl ⟨by rfl,?_⟩) hHeld ?_ ?_
             rotate_left
             ·rintro w' ⟨s0,s1⟩
              go_simp
              with_reducible rfl
             rotate_left
             ·simp only [Act.put,s1_,s2_,s3_,i64_w,i32_w]
              rfl
             refine take_ (i:=2) (N:=some 105) (v:=?_) (a':=?_) #[true,false,true,false,true,true,false,false,false,false,false,false,false] rfl rfl (take_ofW HT_.out HW_.out (by kernel_rfl)) (fun _ _ _ h=>h) (Or.inl ⟨by rfl,?_⟩) hHeld ?_ ?_
             rotate_left
             ·rintro w' ⟨s0,s1⟩
              go_simp
              with_reducible rfl
             rotate_left
             ·simp only [Act.put,s1_,s2_,s3_,i64_w,i32_w]
              rfl
             refine join_ (σ:=Value × Value × Value × Nat) 2 #[true,true,true,true,true,true,true,true,true,true,true,false,false] (fun s_=>[(104,.agg #[s_.1]),(106,.agg #[s_.2.1]),(109,.tuple #[.agg #[s_.2.2.1],.bool t55]),(19,.pointer (some ⟨s_.2.2.2,0,none⟩)),(102,.tuple #[.agg #[s_.2.2.1],.bool t55]),(110,.agg #[s_.2.2.1]),(111,.bool t55)]) (fun s_ w'=>(w'.cell? ⟨gb1,0,none⟩ = some (.slice A0_0 l0_0.length c0_0) ∧ w'.cell? ⟨gb2,0,none⟩ = some (.slice A1_0 l1_0.length c1_0)) ∧ (Kd.R k106 106 w' w.heap.size (fun k_=>some k_ ≠ (.slice Ao49 t39.length co49 : Value).ownBlock) s_.1 t46) ∧ (Kd.R k79 79 w' w.heap.size (fun k_=>some k_ ≠ (s_.2.2.1 : Value).ownBlock ∧ some k_ ≠ (.slice Ao43 t11.length co43 : Value).ownBlock ∧ some k_ ≠ (.slice Ao58 t41.length co58 : Value).ownBlock ∧ some k_ ≠ (.slice Ao67 t24.length co67 : Value).ownBlock) s_.2.1 t49) ∧ (Kd.R k79 79 w' w.heap.size (fun k_=>some k_ ≠ (s_.2.1 : Value).ownBlock ∧ some k_ ≠ (.slice Ao43 t11.length co43 : Value).ownBlock ∧ some k_ ≠ (.slice Ao58 t41.length co58 : Value).ownBlock ∧ some k_ ≠ (.slice Ao67 t24.length co67 : Value).ownBlock) s_.2.2.1 t52) ∧ (Kd.R k79 79 w' w.heap.size (fun k_=>some k_ ≠ (s_.2.1 : Value).ownBlock ∧ some k_ ≠ (s_.2.2.1 : Value).ownBlock ∧ some k_ ≠ (.slice Ao58 t41.length co58 : Value).ownBlock ∧ some k_ ≠ (.slice Ao67 t24.length co67 : Value).ownBlock) (.slice Ao43 t11.length co43) t11) ∧ (Kd.R k106 106 w' w.heap.size (fun k_=>some k_ ≠ (s_.1 : Value).ownBlock) (.slice Ao49 t39.length co49) t39) ∧ (Kd.R k79 79 w' w.heap.size (fun k_=>some k_ ≠ (s_.2.1 : Value).ownBlock ∧ some k_ ≠ (s_.2.2.1 : Value).ownBlock ∧ some k_ ≠ (.slice Ao43 t11.length co43 : Value).ownBlock ∧ some k_ ≠ (.slice Ao67 t24.length co67 : Value).ownBlock) (.slice Ao58 t41.length co58) t41) ∧ (Kd.R k79 79 w' w.heap.size (fun k_=>some k_ ≠ (s_.2.1 : Value).ownBlock ∧ some k_ ≠ (s_.2.2.1 : Value).ownBlock ∧ some k_ ≠ (.slice Ao43 t11.length co43 : Value).ownBlock ∧ some k_ ≠ (.slice Ao58 t41.length co58 : Value).ownBlock) (.slice Ao67 t24.length co67) t44) ∧ (w'.heap[gb1]? = some (.cells #[.slice A0_0 l0_0.length c0_0] 24 (0,0))) ∧ (w'.heap[gb15]? = some (.cells #[.slice Ao43 t11.length co43] 37 (0,0))) ∧ (w'.heap[gb19]? = some (.cells #[.slice Ao49 t39.length co49] 33 (0,0))) ∧ (w'.heap[gb2]? = some (.cells #[.slice A1_0 l1_0.length c1_0] 27 (0,0))) ∧ (w'.heap[gb23]? = some (.cells #[.slice Ao58 t41.length co58] 37 (0,0))) ∧ (w'.heap[gb28]? = some (.cells #[.slice Ao67 t24.length co67] 37 (0,0))) ∧ (w'.heap[s_.2.2.2]? = some (.cells #[.slice none 0 0] 37 (0,0))) ∧ (w.heap.size ≤ s_.2.2.2) ∧ (w.heap.size ≤ s_.2.2.2) ∧ (gb1 ≠ s_.2.2.2) ∧ (s_.2.2.2 ≠ gb1) ∧ (gb15 ≠ s_.2.2.2) ∧ (s_.2.2.2 ≠ gb15) ∧ (gb19 ≠ s_.2.2.2) ∧ (s_.2.2.2 ≠ gb19) ∧ (gb2 ≠ s_.2.2.2) ∧ (s_.2.2.2 ≠ gb2) ∧ (gb23 ≠ s_.2.2.2) ∧ (s_.2.2.2 ≠ gb23) ∧ (gb28 ≠ s_.2.2.2) ∧ (s_.2.2.2 ≠ gb28) ∧ (Below w.heap.size w w')) ?_ ?_
             rotate_left
             ·intro hCont
              refine two_ (i:=1) (j:=10) (Ni:=some 104) (Nj:=some 19) #[true,true,true,false,true,true,false,false,false,false,false,false,false] #[true,false,true,false,true,true,false,false,false,false,true,false,false] rfl rfl rfl rfl (two_of HT_.out (by kernel_rfl)) (by decide) (by decide) (fun K hK=>?_) (fun K hK=>?_)
              ·skip
               refine goes_ Try.func17 (by kernel_rfl) rfl #[.agg #[.slice A0_0 l0_0.length c0_0]] (by rfl) rfl rfl lm_ ?_
               with_reducible refine (laws_toTree.calls kj108 _ _ l0_0 t46 _ ?side1 ?side2 A172.1).mono ?_
               (case side1=>exact cc_ (C_below HR0_0.1 HB.1))
               (case side2=>exact HC0_0.1)
               rintro e w186 ⟨v47,rfl,ho0,hb⟩
               refine ⟨_,rfl,?_⟩
               have n0_:=rb_ Z16 hb
               have n1_:=a0_ (R_elder' (rr_ Z20.out) (R_base ho0) hb)
               have n2_:=rb_ Z24 hb
               have n3_:=rb_ Z29 hb
               have n4_:=a0_ (R_lower (R_new' ho0 (R_lt (rr_ Z20.out))) (below_size hb_))
               have n5_:=kb_ BK1 hb
               have n6_:=kb_ BK2 hb
               have n7_:=kb_ BK15 hb
               have n8_:=kb_ BK19 hb
               have n9_:=kb_ BK23 hb
               have n10_:=kb_ BK28 hb
               have n11_:=a0_ (below_step hb_ hb)
               clear Z16
               clear Z20
               clear Z24
               clear Z29
               clear BK1
               clear BK2
               clear BK15
               clear BK19
               clear BK23
               clear BK28
               clear HB
               have Z16:=n0_
               have Z20:=n1_
               have Z24:=n2_
               have Z29:=n3_
               have HO48:=n4_
               have BK1:=n5_
               have BK2:=n6_
               have BK15:=n7_
               have BK19:=n8_
               have BK23:=n9_
               have BK28:=n10_
               have HB:=n11_
               clear n0_ n1_ n2_ n3_ n4_ n5_ n6_ n7_ n8_ n9_ n10_ n11_
               (try clear hb)
               (try clear hb2)
               (try clear hk)
               (try clear hi)
               (try clear ho0)
               refine hK.out _ _ ⟨(blk_cell BK1.1 0).trans rfl,(blk_cell BK2.1 0).trans rfl⟩ (fun hHeld=>?_)
               clear hK K
               refine norm_ (a':=?_) ?_ ?_
               rotate_left
               ·show Act.put _ (some 104) _ = _
                simp only [Act.put,s1_,s2_,s3_,i64_w,i32_w]
                rfl
               refine two_ (i:=3) (j:=10) (Ni:=some 106) (Nj:=some 19) #[true,true,true,true,true,true,false,false,false,false,false,false,false] #[true,true,true,false,true,true,false,false,false,false,true,false,false] rfl rfl rfl rfl (two_of HT_.out (by kernel_rfl)) (by decide) (by decide) (fun K hK=>?_) (fun K hK=>?_)
               ·skip
                refine goes_ Try.func18 (by kernel_rfl) rfl #[.agg #[.slice A1_0 l1_0.length c1_0]] (by rfl) rfl rfl lm_ ?_
                with_reducible refine (laws_toHeap.calls kj108 _ _ l1_0 t49 _ ?side1 ?side2 A173.1).mono ?_
                (case side1=>exact cc_ (C_below HR1_0.1 HB.1))
                (case side2=>exact HC1_0.1)
                rintro e w187 ⟨v50,rfl,ho0,hb⟩
                refine ⟨_,rfl,?_⟩
                have n0_:=a0_ (R_elder' (rr_ Z16.out) (R_base ho0) hb)
                have n1_:=rb_ Z20 hb
                have n2_:=a0_ (R_elder' (rr_ Z24.out) (R_base ho0) hb)
                have n3_:=a0_ (R_elder' (rr_ Z29.out) (R_base ho0) hb)
                have n4_:=rb_ HO48 hb
                have n5_:=a0_ (R_lower (R_new' (R_new' (R_new' ho0 (R_lt (rr_ Z16.out))) (R_lt (rr_ Z24.out))) (R_lt (rr_ Z29.out))) (below_size hb_))
                have n6_:=kb_ BK1 hb
                have n7_:=kb_ BK2 hb
                have n8_:=kb_ BK15 hb
                have n9_:=kb_ BK19 hb
                have n10_:=kb_ BK23 hb
                have n11_:=kb_ BK28 hb
                have n12_:=a0_ (below_step hb_ hb)
                clear Z16
                clear Z20
                clear Z24
                clear Z29
                clear HO48
                clear BK1
                clear BK2
                clear BK15
                clear BK19
                clear BK23
                clear BK28
                clear HB
                have Z16:=n0_
                have Z20:=n1_
                have Z24:=n2_
                have Z29:=n3_
                have HO48:=n4_
                have HO51:=n5_
                have BK1:=n6_
                have BK2:=n7_
                have BK15:=n8_
                have BK19:=n9_
                have BK23:=n10_
                have BK28:=n11_
                have HB:=n12_
                clear n0_ n1_ n2_ n3_ n4_ n5_ n6_ n7_ n8_ n9_ n10_ n11_ n12_
                (try clear hb)
                (try clear hb2)
                (try clear hk)
                (try clear hi)
                (try clear ho0)
                obtain ⟨Ao188,co188,eo188⟩:=R_slice HO48.1
                (first | subst eo188 | (injection eo188 with f1_ f2_ f3_;have f4_:=f1_.symm;have f5_:=f3_.symm;clear f1_ f2_ f3_;subst f4_;subst f5_))
                obtain ⟨Ao189,co189,eo189⟩:=R_slice HO51.1
                (first | subst eo189 | (injection eo189 with f1_ f2_ f3_;have f4_:=f1_.symm;have f5_:=f3_.symm;clear f1_ f2_ f3_;subst f4_;subst f5_))
                refine hK.out _ _ ⟨(blk_cell BK1.1 0).trans rfl,(blk_cell BK2.1 0).trans rfl⟩ (fun hHeld=>?_)
                clear hK K
                refine norm_ (a':=?_) ?_ ?_
                rotate_left
                ·show Act.put _ (some 106) _ = _
                 simp only [Act.put,s1_,s2_,s3_,i64_w,i32_w]
                 rfl
                refine two_ (i:=6) (j:=10) (Ni:=some 109) (Nj:=some 19) #[true,true,true,true,true,true,true,false,false,false,false,false,false] #[true,true,true,true,true,true,false,false,false,false,true,false,false] rfl rfl rfl rfl (two_of HT_.out (by kernel_rfl)) (by decide) (by decide) (fun K hK=>?_) (fun K hK=>?_)
                ·skip
                 refine goes_ Try.func43 (by kernel_rfl) rfl #[.agg #[.slice Ao188 t46.length co188],.agg #[.slice Ao189 t49.length co189],.int .i64 a2,.int .i64 a3] (by rfl) rfl rfl lm_ ?_
                 with_reducible refine (impl_RaiseWhile.calls _ _ t46 _ _ t49 a2 a3 t52 t55 _ ?side1 ?side2 ?side3 ?side4 A174.1).mono ?_
                 (case side1=>exact cc_ (R_reads' HO48.1).2.2)
                 (case side2=>exact (R_reads' HO48.1).2.1)
                 (case side3=>exact cc_ (R_reads' HO51.1).2.2)
                 (case side4=>exact (R_reads' HO51.1).2.1)
                 rintro e w190 ⟨v53,rfl,ho0,hb⟩
                 refine ⟨_,rfl,?_⟩
                 have n0_:=a0_ (R_elder' (rr_ Z16.out) (R_base ho0) hb)
                 have n1_:=rb_ Z20 hb
                 have n2_:=a0_ (R_elder' (rr_ Z24.out) (R_base ho0) hb)
                 have n3_:=a0_ (R_elder' (rr_ Z29.out) (R_base ho0) hb)
                 have n4_:=rb_ HO48 hb
                 have n5_:=a0_ (R_elder' (rr_ HO51.1) (R_base ho0) hb)
                 have n6_:=a0_ (R_lower (R_new' (R_new' (R_new' (R_new' ho0 (R_lt (rr_ Z16.out))) (R_lt (rr_ Z24.out))) (R_lt (rr_ Z29.out))) (R_lt (rr_ HO51.1))) (below_size hb_))
                 have n7_:=kb_ BK1 hb
                 have n8_:=kb_ BK2 hb
                 have n9_:=kb_ BK15 hb
                 have n10_:=kb_ BK19 hb
                 have n11_:=kb_ BK23 hb
                 have n12_:=kb_ BK28 hb
                 have n13_:=a0_ (below_step hb_ hb)
                 clear Z16
                 clear Z20
                 clear Z24
                 clear Z29
                 clear HO48
                 clear HO51
                 clear BK1
                 clear BK2
                 clear BK15
                 clear BK19
                 clear BK23
                 clear BK28
                 clear HB
                 have Z16:=n0_
                 have Z20:=n1_
                 have Z24:=n2_
                 have Z29:=n3_
                 have HO48:=n4_
                 have HO51:=n5_
                 have HO54:=n6_
                 have BK1:=n7_
                 have BK2:=n8_
                 have BK15:=n9_
                 have BK19:=n10_
                 have BK23:=n11_
                 have BK28:=n12_
                 have HB:=n13_
                 clear n0_ n1_ n2_ n3_ n4_ n5_ n6_ n7_ n8_ n9_ n10_ n11_ n12_ n13_
                 (try clear hb)
                 (try clear hb2)
                 (try clear hk)
                 (try clear hi)
                 (try clear ho0)
                 refine hK.out _ _ ⟨(blk_cell BK1.1 0).trans rfl,(blk_cell BK2.1 0).trans rfl⟩ (fun hHeld=>?_)
                 clear hK K
                 refine norm_ (a':=?_) ?_ ?_
                 rotate_left
                 ·show Act.put _ (some 109) _ = _
                  simp only [Act.put,s1_,s2_,s3_,i64_w,i32_w]
                  rfl
                 refine pure_ (i:=7) (N:=some 102) (v:=?_) (a':=?_) #[true,true,true,true,true,true,true,true,false,false,false,false,false] rfl rfl (any_of HT_.out (by kernel_rfl)) (fun _ _ _ h=>h) (Or.inl ⟨by rfl,?_⟩) ?_ ?_
                 rotate_left
                 ·intro w'
                  go_simp
                  with_reducible rfl
                 rotate_left
                 ·simp only [Act.put,s1_,s2_,s3_,i64_w,i32_w]
                  rfl
                 refine pure_ (i:=8) (N:=some 110) (v:=?_) (a':=?_) #[true,true,true,true,true,true,true,true,true,false,false,false,false] rfl rfl (any_of HT_.out (by kernel_rfl)) (fun _ _ _ h=>h) (Or.inl ⟨by rfl,?_⟩) ?_ ?_
                 rotate_left
                 ·intro w'
                  go_simp
                  with_reducible rfl
                 rotate_left
                 ·simp only [Act.put,s1_,s2_,s3_,i64_w,i32_w]
                  rfl
                 refine pure_ (i:=9) (N:=some 111) (v:=?_) (a':=?_) #[true,true,true,true,true,true,true,true,true,true,false,false,false] rfl rfl (any_of HT_.out (by kernel_rfl)) (fun _ _ _ h=>h) (Or.inl ⟨by rfl,?_⟩) ?_ ?_
                 rotate_left
                 ·intro w'
                  go_simp
                  with_reducible rfl
                 rotate_left
                 ·simp only [Act.put,s1_,s2_,s3_,i64_w,i32_w]
                  rfl
                 refine one_ (i:=10) (N:=some 19) #[true,true,true,true,true,true,true,true,true,true,true,false,false] rfl rfl (one_of HT_.out (by kernel_rfl)) (by decide) (fun K hK=>?_)
                 refine box_step ?hg (N:=19) ?hd (cs:=#[.slice none 0 0]) (t:=37) ?hr ?_;(case hd=>rfl);(case hg=>rfl);(case hr=>first | (go_simp;done) | (go_simp;rfl))
                 intro gb56 hg w191 hbox hb
                 have n0_:=rb_ Z16 hb
                 have n1_:=rb_ Z20 hb
                 have n2_:=rb_ Z24 hb
                 have n3_:=rb_ Z29 hb
                 have n4_:=rb_ HO48 hb
                 have n5_:=rb_ HO51 hb
                 have n6_:=rb_ HO54 hb
                 have n7_:=kb_ BK1 hb
                 have n8_:=kb_ BK2 hb
                 have n9_:=kb_ BK15 hb
                 have n10_:=kb_ BK19 hb
                 have n11_:=kb_ BK23 hb
                 have n12_:=kb_ BK28 hb
                 have n13_:=a0_ (below_step hb_ hb)
                 have n14_:=a0_ (hbox)
                 have n15_:=a0_ ((by rw [hg];exact (below_size hb_) : w.heap.size ≤ gb56))
                 have n16_:=a0_ ((by rw [hg];exact (below_size hb_) : w.heap.size ≤ gb56))
                 have n17_:=a0_ ((by rw [hg];exact Nat.ne_of_lt (blk_lt (bb_ BK1.1)) : gb1 ≠ gb56))
                 have n18_:=a0_ ((by rw [hg];exact Nat.ne_of_gt (blk_lt (bb_ BK1.1)) : gb56 ≠ gb1))
                 have n19_:=a0_ ((by rw [hg];exact Nat.ne_of_lt (blk_lt (bb_ BK2.1)) : gb2 ≠ gb56))
                 have n20_:=a0_ ((by rw [hg];exact Nat.ne_of_gt (blk_lt (bb_ BK2.1)) : gb56 ≠ gb2))
                 have n21_:=a0_ ((by rw [hg];exact Nat.ne_of_lt (blk_lt (bb_ BK15.1)) : gb15 ≠ gb56))
                 have n22_:=a0_ ((by rw [hg];exact Nat.ne_of_gt (blk_lt (bb_ BK15.1)) : gb56 ≠ gb15))
                 have n23_:=a0_ ((by rw [hg];exact Nat.ne_of_lt (blk_lt (bb_ BK19.1)) : gb19 ≠ gb56))
                 have n24_:=a0_ ((by rw [hg];exact Nat.ne_of_gt (blk_lt (bb_ BK19.1)) : gb56 ≠ gb19))
                 have n25_:=a0_ ((by rw [hg];exact Nat.ne_of_lt (blk_lt (bb_ BK23.1)) : gb23 ≠ gb56))
                 have n26_:=a0_ ((by rw [hg];exact Nat.ne_of_gt (blk_lt (bb_ BK23.1)) : gb56 ≠ gb23))
                 have n27_:=a0_ ((by rw [hg];exact Nat.ne_of_lt (blk_lt (bb_ BK28.1)) : gb28 ≠ gb56))
                 have n28_:=a0_ ((by rw [hg];exact Nat.ne_of_gt (blk_lt (bb_ BK28.1)) : gb56 ≠ gb28))
                 clear Z16
                 clear Z20
                 clear Z24
                 clear Z29
                 clear HO48
                 clear HO51
                 clear HO54
                 clear BK1
                 clear BK2
                 clear BK15
                 clear BK19
                 clear BK23
                 clear BK28
                 clear HB
                 have Z16:=n0_
                 have Z20:=n1_
                 have Z24:=n2_
                 have Z29:=n3_
                 have HO48:=n4_
                 have HO51:=n5_
                 have HO54:=n6_
                 have BK1:=n7_
                 have BK2:=n8_
                 have BK15:=n9_
                 have BK19:=n10_
                 have BK23:=n11_
                 have BK28:=n12_
                 have HB:=n13_
                 have BK56:=n14_
                 have GW56:=n15_
                 have GE56:=n16_
                 have NB1_56:=n17_
                 have NB56_1:=n18_
                 have NB2_56:=n19_
                 have NB56_2:=n20_
                 have NB15_56:=n21_
                 have NB56_15:=n22_
                 have NB19_56:=n23_
                 have NB56_19:=n24_
                 have NB23_56:=n25_
                 have NB56_23:=n26_
                 have NB28_56:=n27_
                 have NB56_28:=n28_
                 clear n0_ n1_ n2_ n3_ n4_ n5_ n6_ n7_ n8_ n9_ n10_ n11_ n12_ n13_ n14_ n15_ n16_ n17_ n18_ n19_ n20_ n21_ n22_ n23_ n24_ n25_ n26_ n27_ n28_
                 clear hb hbox hg
                 refine hK.out _ _ ⟨(blk_cell BK1.1 0).trans rfl,(blk_cell BK2.1 0).trans rfl⟩ (fun hHeld=>?_)
                 clear hK K
                 refine norm_ (a':=?_) ?_ ?_
                 rotate_left
                 ·show Act.put _ (some 19) _ = _
                  simp only [Act.put,s1_,s2_,s3_,i64_w,i32_w]
                  rfl
                 exact norm_ (by simp only [putAll,Act.put,s1_,s2_,s3_]) (hCont (.slice Ao188 t46.length co188,.slice Ao189 t49.length co189,v53,gb56) _ ⟨hHeld,(rm_ HO48.1 (fun _ hk=>hk.2)),(rm_ HO51.1 (fun _ hk=>⟨hk.2,⟨hk.1.1.1.2,⟨hk.1.1.2,hk.1.2⟩⟩⟩)),(rm_ HO54.1 (fun _ hk=>⟨hk.2,⟨hk.1.1.1.2,⟨hk.1.1.2,hk.1.2⟩⟩⟩)),(rm_ Z16.out (fun _ hk=>⟨hk.1.2,⟨hk.2,⟨hk.1.1.1,hk.1.1.2⟩⟩⟩)),(rm_ Z20.out (fun _ hk=>hk.2)),(rm_ Z24.out (fun _ hk=>⟨hk.1.2,⟨hk.2,⟨hk.1.1.1,hk.1.1.2⟩⟩⟩)),(rm_ Z29.out (fun _ hk=>⟨hk.1.2,⟨hk.2,⟨hk.1.1.1,hk.1.1.2⟩⟩⟩)),(bb_ BK1.1),(bb_ BK15.1),(bb_ BK19.1),(bb_ BK2.1),(bb_ BK23.1),(bb_ BK28.1),(bb_ BK56.1),GW56.1,GE56.1,NB1_56.1,NB56_1.1,NB15_56.1,NB56_15.1,NB19_56.1,NB56_19.1,NB2_56.1,NB56_2.1,NB23_56.1,NB56_23.1,NB28_56.1,NB56_28.1,hb_⟩)
                ·skip
                 refine box_step ?hg (N:=19) ?hd (cs:=#[.slice none 0 0]) (t:=37) ?hr ?_;(case hd=>rfl);(case hg=>rfl);(case hr=>first | (go_simp;done) | (go_simp;rfl))
                 intro gb56 hg w188 hbox hb
                 have n0_:=rb_ Z16 hb
                 have n1_:=rb_ Z20 hb
                 have n2_:=rb_ Z24 hb
                 have n3_:=rb_ Z29 hb
                 have n4_:=rb_ HO48 hb
                 have n5_:=rb_ HO51 hb
                 have n6_:=kb_ BK1 hb
                 have n7_:=kb_ BK2 hb
                 have n8_:=kb_ BK15 hb
                 have n9_:=kb_ BK19 hb
                 have n10_:=kb_ BK23 hb
                 have n11_:=kb_ BK28 hb
                 have n12_:=a0_ (below_step hb_ hb)
                 have n13_:=a0_ (hbox)
                 have n14_:=a0_ ((by rw [hg];exact (below_size hb_) : w.heap.size ≤ gb56))
                 have n15_:=a0_ ((by rw [hg];exact (below_size hb_) : w.heap.size ≤ gb56))
                 have n16_:=a0_ ((by rw [hg];exact Nat.ne_of_lt (blk_lt (bb_ BK1.1)) : gb1 ≠ gb56))
                 have n17_:=a0_ ((by rw [hg];exact Nat.ne_of_gt (blk_lt (bb_ BK1.1)) : gb56 ≠ gb1))
                 have n18_:=a0_ ((by rw [hg];exact Nat.ne_of_lt (blk_lt (bb_ BK2.1)) : gb2 ≠ gb56))
                 have n19_:=a0_ ((by rw [hg];exact Nat.ne_of_gt (blk_lt (bb_ BK2.1)) : gb56 ≠ gb2))
                 have n20_:=a0_ ((by rw [hg];exact Nat.ne_of_lt (blk_lt (bb_ BK15.1)) : gb15 ≠ gb56))
                 have n21_:=a0_ ((by rw [hg];exact Nat.ne_of_gt (blk_lt (bb_ BK15.1)) : gb56 ≠ gb15))
                 have n22_:=a0_ ((by rw [hg];exact Nat.ne_of_lt (blk_lt (bb_ BK19.1)) : gb19 ≠ gb56))
                 have n23_:=a0_ ((by rw [hg];exact Nat.ne_of_gt (blk_lt (bb_ BK19.1)) : gb56 ≠ gb19))
                 have n24_:=a0_ ((by rw [hg];exact Nat.ne_of_lt (blk_lt (bb_ BK23.1)) : gb23 ≠ gb56))
                 have n25_:=a0_ ((by rw [hg];exact Nat.ne_of_gt (blk_lt (bb_ BK23.1)) : gb56 ≠ gb23))
                 have n26_:=a0_ ((by rw [hg];exact Nat.ne_of_lt (blk_lt (bb_ BK28.1)) : gb28 ≠ gb56))
                 have n27_:=a0_ ((by rw [hg];exact Nat.ne_of_gt (blk_lt (bb_ BK28.1)) : gb56 ≠ gb28))
                 clear Z16
                 clear Z20
                 clear Z24
                 clear Z29
                 clear HO48
                 clear HO51
                 clear BK1
                 clear BK2
                 clear BK15
                 clear BK19
                 clear BK23
                 clear BK28
                 clear HB
                 have Z16:=n0_
                 have Z20:=n1_
                 have Z24:=n2_
                 have Z29:=n3_
                 have HO48:=n4_
                 have HO51:=n5_
                 have BK1:=n6_
                 have BK2:=n7_
                 have BK15:=n8_
                 have BK19:=n9_
                 have BK23:=n10_
                 have BK28:=n11_
                 have HB:=n12_
                 have BK56:=n13_
                 have GW56:=n14_
                 have GE56:=n15_
                 have NB1_56:=n16_
                 have NB56_1:=n17_
                 have NB2_56:=n18_
                 have NB56_2:=n19_
                 have NB15_56:=n20_
                 have NB56_15:=n21_
                 have NB19_56:=n22_
                 have NB56_19:=n23_
                 have NB23_56:=n24_
                 have NB56_23:=n25_
                 have NB28_56:=n26_
                 have NB56_28:=n27_
                 clear n0_ n1_ n2_ n3_ n4_ n5_ n6_ n7_ n8_ n9_ n10_ n11_ n12_ n13_ n14_ n15_ n16_ n17_ n18_ n19_ n20_ n21_ n22_ n23_ n24_ n25_ n26_ n27_
                 clear hb hbox hg
                 obtain ⟨Ao189,co189,eo189⟩:=R_slice HO48.1
                 (first | subst eo189 | (injection eo189 with f1_ f2_ f3_;have f4_:=f1_.symm;have f5_:=f3_.symm;clear f1_ f2_ f3_;subst f4_;subst f5_))
                 obtain ⟨Ao190,co190,eo190⟩:=R_slice HO51.1
                 (first | subst eo190 | (injection eo190 with f1_ f2_ f3_;have f4_:=f1_.symm;have f5_:=f3_.symm;clear f1_ f2_ f3_;subst f4_;subst f5_))
                 refine hK.out _ _ ⟨(blk_cell BK1.1 0).trans rfl,(blk_cell BK2.1 0).trans rfl⟩ (fun hHeld=>?_)
                 clear hK K
                 refine norm_ (a':=?_) ?_ ?_
                 rotate_left
                 ·show Act.put _ (some 19) _ = _
                  simp only [Act.put,s1_,s2_,s3_,i64_w,i32_w]
                  rfl
                 refine one_ (i:=6) (N:=some 109) #[true,true,true,true,true,true,true,false,false,false,true,false,false] rfl rfl (one_of HT_.out (by kernel_rfl)) (by decide) (fun K hK=>?_)
                 refine goes_ Try.func43 (by kernel_rfl) rfl #[.agg #[.slice Ao189 t46.length co189],.agg #[.slice Ao190 t49.length co190],.int .i64 a2,.int .i64 a3] (by rfl) rfl rfl lm_ ?_
                 with_reducible refine (impl_RaiseWhile.calls _ _ t46 _ _ t49 a2 a3 t52 t55 _ ?side1 ?side2 ?side3 ?side4 A174.1).mono ?_
                 (case side1=>exact cc_ (R_reads' HO48.1).2.2)
                 (case side2=>exact (R_reads' HO48.1).2.1)
                 (case side3=>exact cc_ (R_reads' HO51.1).2.2)
                 (case side4=>exact (R_reads' HO51.1).2.1)
                 rintro e w191 ⟨v53,rfl,ho0,hb⟩
                 refine ⟨_,rfl,?_⟩
                 have n0_:=a0_ (R_elder' (rr_ Z16.out) (R_base ho0) hb)
                 have n1_:=rb_ Z20 hb
                 have n2_:=a0_ (R_elder' (rr_ Z24.out) (R_base ho0) hb)
                 have n3_:=a0_ (R_elder' (rr_ Z29.out) (R_base ho0) hb)
                 have n4_:=rb_ HO48 hb
                 have n5_:=a0_ (R_elder' (rr_ HO51.1) (R_base ho0) hb)
                 have n6_:=a0_ (R_lower (R_new' (R_new' (R_new' (R_new' ho0 (R_lt (rr_ Z16.out))) (R_lt (rr_ Z24.out))) (R_lt (rr_ Z29.out))) (R_lt (rr_ HO51.1))) (below_size hb_))
                 have n7_:=kb_ BK1 hb
                 have n8_:=kb_ BK2 hb
                 have n9_:=kb_ BK15 hb
                 have n10_:=kb_ BK19 hb
                 have n11_:=kb_ BK23 hb
                 have n12_:=kb_ BK28 hb
                 have n13_:=kb_ BK56 hb
                 have n14_:=a0_ (below_step hb_ hb)
                 clear Z16
                 clear Z20
                 clear Z24
                 clear Z29
                 clear HO48
                 clear HO51
                 clear BK1
                 clear BK2
                 clear BK15
                 clear BK19
                 clear BK23
                 clear BK28
                 clear BK56
                 clear HB
                 have Z16:=n0_
                 have Z20:=n1_
                 have Z24:=n2_
                 have Z29:=n3_
                 have HO48:=n4_
                 have HO51:=n5_
                 have HO54:=n6_
                 have BK1:=n7_
                 have BK2:=n8_
                 have BK15:=n9_
                 have BK19:=n10_
                 have BK23:=n11_
                 have BK28:=n12_
                 have BK56:=n13_
                 have HB:=n14_
                 clear n0_ n1_ n2_ n3_ n4_ n5_ n6_ n7_ n8_ n9_ n10_ n11_ n12_ n13_ n14_
                 (try clear hb)
                 (try clear hb2)
                 (try clear hk)
                 (try clear hi)
                 (try clear ho0)
                 refine hK.out _ _ ⟨(blk_cell BK1.1 0).trans rfl,(blk_cell BK2.1 0).trans rfl⟩ (fun hHeld=>?_)
                 clear hK K
                 refine norm_ (a':=?_) ?_ ?_
                 rotate_left
                 ·show Act.put _ (some 109) _ = _
                  simp only [Act.put,s1_,s2_,s3_,i64_w,i32_w]
                  rfl
                 refine pure_ (i:=7) (N:=some 102) (v:=?_) (a':=?_) #[true,true,true,true,true,true,true,true,false,false,true,false,false] rfl rfl (any_of HT_.out (by kernel_rfl)) (fun _ _ _ h=>h) (Or.inl ⟨by rfl,?_⟩) ?_ ?_
                 rotate_left
                 ·intro w'
                  go_simp
                  with_reducible rfl
                 rotate_left
                 ·simp only [Act.put,s1_,s2_,s3_,i64_w,i32_w]
                  rfl
                 refine pure_ (i:=8) (N:=some 110) (v:=?_) (a':=?_) #[true,true,true,true,true,true,true,true,true,false,true,false,false] rfl rfl (any_of HT_.out (by kernel_rfl)) (fun _ _ _ h=>h) (Or.inl ⟨by rfl,?_⟩) ?_ ?_
                 rotate_left
                 ·intro w'
                  go_simp
                  with_reducible rfl
                 rotate_left
                 ·simp only [Act.put,s1_,s2_,s3_,i64_w,i32_w]
                  rfl
                 refine pure_ (i:=9) (N:=some 111) (v:=?_) (a':=?_) #[true,true,true,true,true,true,true,true,true,true,true,false,false] rfl rfl (any_of HT_.out (by kernel_rfl)) (fun _ _ _ h=>h) (Or.inl ⟨by rfl,?_⟩) ?_ ?_
                 rotate_left
                 ·intro w'
                  go_simp
                  with_reducible rfl
                 rotate_left
                 ·simp only [Act.put,s1_,s2_,s3_,i64_w,i32_w]
                  rfl
                 exact norm_ (by simp only [putAll,Act.put,s1_,s2_,s3_]) (hCont (.slice Ao189 t46.length co189,.slice Ao190 t49.length co190,v53,gb56) _ ⟨hHeld,(rm_ HO48.1 (fun _ hk=>hk.2)),(rm_ HO51.1 (fun _ hk=>⟨hk.2,⟨hk.1.1.1.2,⟨hk.1.1.2,hk.1.2⟩⟩⟩)),(rm_ HO54.1 (fun _ hk=>⟨hk.2,⟨hk.1.1.1.2,⟨hk.1.1.2,hk.1.2⟩⟩⟩)),(rm_ Z16.out (fun _ hk=>⟨hk.1.2,⟨hk.2,⟨hk.1.1.1,hk.1.1.2⟩⟩⟩)),(rm_ Z20.out (fun _ hk=>hk.2)),(rm_ Z24.out (fun _ hk=>⟨hk.1.2,⟨hk.2,⟨hk.1.1.1,hk.1.1.2⟩⟩⟩)),(rm_ Z29.out (fun _ hk=>⟨hk.1.2,⟨hk.2,⟨hk.1.1.1,hk.1.1.2⟩⟩⟩)),(bb_ BK1.1),(bb_ BK15.1),(bb_ BK19.1),(bb_ BK2.1),(bb_ BK23.1),(bb_ BK28.1),(bb_ BK56.1),GW56.1,GE56.1,NB1_56.1,NB56_1.1,NB15_56.1,NB56_15.1,NB19_56.1,NB56_19.1,NB2_56.1,NB56_2.1,NB23_56.1,NB56_23.1,NB28_56.1,NB56_28.1,hb_⟩)
               ·skip
                refine box_step ?hg (N:=19) ?hd (cs:=#[.slice none 0 0]) (t:=37) ?hr ?_;(case hd=>rfl);(case hg=>rfl);(case hr=>first | (go_simp;done) | (go_simp;rfl))
                intro gb56 hg w187 hbox hb
                have n0_:=rb_ Z16 hb
                have n1_:=rb_ Z20 hb
                have n2_:=rb_ Z24 hb
                have n3_:=rb_ Z29 hb
                have n4_:=rb_ HO48 hb
                have n5_:=kb_ BK1 hb
                have n6_:=kb_ BK2 hb
                have n7_:=kb_ BK15 hb
                have n8_:=kb_ BK19 hb
                have n9_:=kb_ BK23 hb
                have n10_:=kb_ BK28 hb
                have n11_:=a0_ (below_step hb_ hb)
                have n12_:=a0_ (hbox)
                have n13_:=a0_ ((by rw [hg];exact (below_size hb_) : w.heap.size ≤ gb56))
                have n14_:=a0_ ((by rw [hg];exact (below_size hb_) : w.heap.size ≤ gb56))
                have n15_:=a0_ ((by rw [hg];exact Nat.ne_of_lt (blk_lt (bb_ BK1.1)) : gb1 ≠ gb56))
                have n16_:=a0_ ((by rw [hg];exact Nat.ne_of_gt (blk_lt (bb_ BK1.1)) : gb56 ≠ gb1))
                have n17_:=a0_ ((by rw [hg];exact Nat.ne_of_lt (blk_lt (bb_ BK2.1)) : gb2 ≠ gb56))
                have n18_:=a0_ ((by rw [hg];exact Nat.ne_of_gt (blk_lt (bb_ BK2.1)) : gb56 ≠ gb2))
                have n19_:=a0_ ((by rw [hg];exact Nat.ne_of_lt (blk_lt (bb_ BK15.1)) : gb15 ≠ gb56))
                have n20_:=a0_ ((by rw [hg];exact Nat.ne_of_gt (blk_lt (bb_ BK15.1)) : gb56 ≠ gb15))
                have n21_:=a0_ ((by rw [hg];exact Nat.ne_of_lt (blk_lt (bb_ BK19.1)) : gb19 ≠ gb56))
                have n22_:=a0_ ((by rw [hg];exact Nat.ne_of_gt (blk_lt (bb_ BK19.1)) : gb56 ≠ gb19))
                have n23_:=a0_ ((by rw [hg];exact Nat.ne_of_lt (blk_lt (bb_ BK23.1)) : gb23 ≠ gb56))
                have n24_:=a0_ ((by rw [hg];exact Nat.ne_of_gt (blk_lt (bb_ BK23.1)) : gb56 ≠ gb23))
                have n25_:=a0_ ((by rw [hg];exact Nat.ne_of_lt (blk_lt (bb_ BK28.1)) : gb28 ≠ gb56))
                have n26_:=a0_ ((by rw [hg];exact Nat.ne_of_gt (blk_lt (bb_ BK28.1)) : gb56 ≠ gb28))
                clear Z16
                clear Z20
                clear Z24
                clear Z29
                clear HO48
                clear BK1
                clear BK2
                clear BK15
                clear BK19
                clear BK23
                clear BK28
                clear HB
                have Z16:=n0_
                have Z20:=n1_
                have Z24:=n2_
                have Z29:=n3_
                have HO48:=n4_
                have BK1:=n5_
                have BK2:=n6_
                have BK15:=n7_
                have BK19:=n8_
                have BK23:=n9_
                have BK28:=n10_
                have HB:=n11_
                have BK56:=n12_
                have GW56:=n13_
                have GE56:=n14_
                have NB1_56:=n15_
                have NB56_1:=n16_
                have NB2_56:=n17_
                have NB56_2:=n18_
                have NB15_56:=n19_
                have NB56_15:=n20_
                have NB19_56:=n21_
                have NB56_19:=n22_
                have NB23_56:=n23_
                have NB56_23:=n24_
                have NB28_56:=n25_
                have NB56_28:=n26_
                clear n0_ n1_ n2_ n3_ n4_ n5_ n6_ n7_ n8_ n9_ n10_ n11_ n12_ n13_ n14_ n15_ n16_ n17_ n18_ n19_ n20_ n21_ n22_ n23_ n24_ n25_ n26_
                clear hb hbox hg
                refine hK.out _ _ ⟨(blk_cell BK1.1 0).trans rfl,(blk_cell BK2.1 0).trans rfl⟩ (fun hHeld=>?_)
                clear hK K
                refine norm_ (a':=?_) ?_ ?_
                rotate_left
                ·show Act.put _ (some 19) _ = _
                 simp only [Act.put,s1_,s2_,s3_,i64_w,i32_w]
                 rfl
                refine one_ (i:=3) (N:=some 106) #[true,true,true,true,true,true,false,false,false,false,true,false,false] rfl rfl (one_of HT_.out (by kernel_rfl)) (by decide) (fun K hK=>?_)
                refine goes_ Try.func18 (by kernel_rfl) rfl #[.agg #[.slice A1_0 l1_0.length c1_0]] (by rfl) rfl rfl lm_ ?_
                with_reducible refine (laws_toHeap.calls kj108 _ _ l1_0 t49 _ ?side1 ?side2 A173.1).mono ?_
                (case side1=>exact cc_ (C_below HR1_0.1 HB.1))
                (case side2=>exact HC1_0.1)
                rintro e w188 ⟨v50,rfl,ho0,hb⟩
                refine ⟨_,rfl,?_⟩
                have n0_:=a0_ (R_elder' (rr_ Z16.out) (R_base ho0) hb)
                have n1_:=rb_ Z20 hb
                have n2_:=a0_ (R_elder' (rr_ Z24.out) (R_base ho0) hb)
                have n3_:=a0_ (R_elder' (rr_ Z29.out) (R_base ho0) hb)
                have n4_:=rb_ HO48 hb
                have n5_:=a0_ (R_lower (R_new' (R_new' (R_new' ho0 (R_lt (rr_ Z16.out))) (R_lt (rr_ Z24.out))) (R_lt (rr_ Z29.out))) (below_size hb_))
                have n6_:=kb_ BK1 hb
                have n7_:=kb_ BK2 hb
                have n8_:=kb_ BK15 hb
                have n9_:=kb_ BK19 hb
                have n10_:=kb_ BK23 hb
                have n11_:=kb_ BK28 hb
                have n12_:=kb_ BK56 hb
                have n13_:=a0_ (below_step hb_ hb)
                clear Z16
                clear Z20
                clear Z24
                clear Z29
                clear HO48
                clear BK1
                clear BK2
                clear BK15
                clear BK19
                clear BK23
                clear BK28
                clear BK56
                clear HB
                have Z16:=n0_
                have Z20:=n1_
                have Z24:=n2_
                have Z29:=n3_
                have HO48:=n4_
                have HO51:=n5_
                have BK1:=n6_
                have BK2:=n7_
                have BK15:=n8_
                have BK19:=n9_
                have BK23:=n10_
                have BK28:=n11_
                have BK56:=n12_
                have HB:=n13_
                clear n0_ n1_ n2_ n3_ n4_ n5_ n6_ n7_ n8_ n9_ n10_ n11_ n12_ n13_
                (try clear hb)
                (try clear hb2)
                (try clear hk)
                (try clear hi)
                (try clear ho0)
                obtain ⟨Ao189,co189,eo189⟩:=R_slice HO48.1
                (first | subst eo189 | (injection eo189 with f1_ f2_ f3_;have f4_:=f1_.symm;have f5_:=f3_.symm;clear f1_ f2_ f3_;subst f4_;subst f5_))
                obtain ⟨Ao190,co190,eo190⟩:=R_slice HO51.1
                (first | subst eo190 | (injection eo190 with f1_ f2_ f3_;have f4_:=f1_.symm;have f5_:=f3_.symm;clear f1_ f2_ f3_;subst f4_;subst f5_))
                refine hK.out _ _ ⟨(blk_cell BK1.1 0).trans rfl,(blk_cell BK2.1 0).trans rfl⟩ (fun hHeld=>?_)
                clear hK K
                refine norm_ (a':=?_) ?_ ?_
                rotate_left
                ·show Act.put _ (some 106) _ = _
                 simp only [Act.put,s1_,s2_,s3_,i64_w,i32_w]
                 rfl
                refine one_ (i:=6) (N:=some 109) #[true,true,true,true,true,true,true,false,false,false,true,false,false] rfl rfl (one_of HT_.out (by kernel_rfl)) (by decide) (fun K hK=>?_)
                refine goes_ Try.func43 (by kernel_rfl) rfl #[.agg #[.slice Ao189 t46.length co189],.agg #[.slice Ao190 t49.length co190],.int .i64 a2,.int .i64 a3] (by rfl) rfl rfl lm_ ?_
                with_reducible refine (impl_RaiseWhile.calls _ _ t46 _ _ t49 a2 a3 t52 t55 _ ?side1 ?side2 ?side3 ?side4 A174.1).mono ?_
                (case side1=>exact cc_ (R_reads' HO48.1).2.2)
                (case side2=>exact (R_reads' HO48.1).2.1)
                (case side3=>exact cc_ (R_reads' HO51.1).2.2)
                (case side4=>exact (R_reads' HO51.1).2.1)
                rintro e w191 ⟨v53,rfl,ho0,hb⟩
                refine ⟨_,rfl,?_⟩
                have n0_:=a0_ (R_elder' (rr_ Z16.out) (R_base ho0) hb)
                have n1_:=rb_ Z20 hb
                have n2_:=a0_ (R_elder' (rr_ Z24.out) (R_base ho0) hb)
                have n3_:=a0_ (R_elder' (rr_ Z29.out) (R_base ho0) hb)
                have n4_:=rb_ HO48 hb
                have n5_:=a0_ (R_elder' (rr_ HO51.1) (R_base ho0) hb)
                have n6_:=a0_ (R_lower (R_new' (R_new' (R_new' (R_new' ho0 (R_lt (rr_ Z16.out))) (R_lt (rr_ Z24.out))) (R_lt (rr_ Z29.out))) (R_lt (rr_ HO51.1))) (below_size hb_))
                have n7_:=kb_ BK1 hb
                have n8_:=kb_ BK2 hb
                have n9_:=kb_ BK15 hb
                have n10_:=kb_ BK19 hb
                have n11_:=kb_ BK23 hb
                have n12_:=kb_ BK28 hb
                have n13_:=kb_ BK56 hb
                have n14_:=a0_ (below_step hb_ hb)
                clear Z16
                clear Z20
                clear Z24
                clear Z29
                clear HO48
                clear HO51
                clear BK1
                clear BK2
                clear BK15
                clear BK19
                clear BK23
                clear BK28
                clear BK56
                clear HB
                have Z16:=n0_
                have Z20:=n1_
                have Z24:=n2_
                have Z29:=n3_
                have HO48:=n4_
                have HO51:=n5_
                have HO54:=n6_
                have BK1:=n7_
                have BK2:=n8_
                have BK15:=n9_
                have BK19:=n10_
                have BK23:=n11_
                have BK28:=n12_
                have BK56:=n13_
                have HB:=n14_
                clear n0_ n1_ n2_ n3_ n4_ n5_ n6_ n7_ n8_ n9_ n10_ n11_ n12_ n13_ n14_
                (try clear hb)
                (try clear hb2)
                (try clear hk)
                (try clear hi)
                (try clear ho0)
                refine hK.out _ _ ⟨(blk_cell BK1.1 0).trans rfl,(blk_cell BK2.1 0).trans rfl⟩ (fun hHeld=>?_)
                clear hK K
                refine norm_ (a':=?_) ?_ ?_
                rotate_left
                ·show Act.put _ (some 109) _ = _
                 simp only [Act.put,s1_,s2_,s3_,i64_w,i32_w]
                 rfl
                refine pure_ (i:=7) (N:=some 102) (v:=?_) (a':=?_) #[true,true,true,true,true,true,true,true,false,false,true,false,false] rfl rfl (any_of HT_.out (by kernel_rfl)) (fun _ _ _ h=>h) (Or.inl ⟨by rfl,?_⟩) ?_ ?_
                rotate_left
                ·intro w'
                 go_simp
                 with_reducible rfl
                rotate_left
                ·simp only [Act.put,s1_,s2_,s3_,i64_w,i32_w]
                 rfl
                refine pure_ (i:=8) (N:=some 110) (v:=?_) (a':=?_) #[true,true,true,true,true,true,true,true,true,false,true,false,false] rfl rfl (any_of HT_.out (by kernel_rfl)) (fun _ _ _ h=>h) (Or.inl ⟨by rfl,?_⟩) ?_ ?_
                rotate_left
                ·intro w'
                 go_simp
                 with_reducible rfl
                rotate_left
                ·simp only [Act.put,s1_,s2_,s3_,i64_w,i32_w]
                 rfl
                refine pure_ (i:=9) (N:=some 111) (v:=?_) (a':=?_) #[true,true,true,true,true,true,true,true,true,true,true,false,false] rfl rfl (any_of HT_.out (by kernel_rfl)) (fun _ _ _ h=>h) (Or.inl ⟨by rfl,?_⟩) ?_ ?_
                rotate_left
                ·intro w'
                 go_simp
                 with_reducible rfl
                rotate_left
                ·simp only [Act.put,s1_,s2_,s3_,i64_w,i32_w]
                 rfl
                exact norm_ (by simp only [putAll,Act.put,s1_,s2_,s3_]) (hCont (.slice Ao189 t46.length co189,.slice Ao190 t49.length co190,v53,gb56) _ ⟨hHeld,(rm_ HO48.1 (fun _ hk=>hk.2)),(rm_ HO51.1 (fun _ hk=>⟨hk.2,⟨hk.1.1.1.2,⟨hk.1.1.2,hk.1.2⟩⟩⟩)),(rm_ HO54.1 (fun _ hk=>⟨hk.2,⟨hk.1.1.1.2,⟨hk.1.1.2,hk.1.2⟩⟩⟩)),(rm_ Z16.out (fun _ hk=>⟨hk.1.2,⟨hk.2,⟨hk.1.1.1,hk.1.1.2⟩⟩⟩)),(rm_ Z20.out (fun _ hk=>hk.2)),(rm_ Z24.out (fun _ hk=>⟨hk.1.2,⟨hk.2,⟨hk.1.1.1,hk.1.1.2⟩⟩⟩)),(rm_ Z29.out (fun _ hk=>⟨hk.1.2,⟨hk.2,⟨hk.1.1.1,hk.1.1.2⟩⟩⟩)),(bb_ BK1.1),(bb_ BK15.1),(bb_ BK19.1),(bb_ BK2.1),(bb_ BK23.1),(bb_ BK28.1),(bb_ BK56.1),GW56.1,GE56.1,NB1_56.1,NB56_1.1,NB15_56.1,NB56_15.1,NB19_56.1,NB56_19.1,NB2_56.1,NB56_2.1,NB23_56.1,NB56_23.1,NB28_56.1,NB56_28.1,hb_⟩)
              ·skip
               refine box_step ?hg (N:=19) ?hd (cs:=#[.slice none 0 0]) (t:=37) ?hr ?_;(case hd=>rfl);(case hg=>rfl);(case hr=>first | (go_simp;done) | (go_simp;rfl))
               intro gb56 hg w186 hbox hb
               have n0_:=rb_ Z16 hb
               have n1_:=rb_ Z20 hb
               have n2_:=rb_ Z24 hb
               have n3_:=rb_ Z29 hb
               have n4_:=kb_ BK1 hb
               have n5_:=kb_ BK2 hb
               have n6_:=kb_ BK15 hb
               have n7_:=kb_ BK19 hb
               have n8_:=kb_ BK23 hb
               have n9_:=kb_ BK28 hb
               have n10_:=a0_ (below_step hb_ hb)
               have n11_:=a0_ (hbox)
               have n12_:=a0_ ((by rw [hg];exact (below_size hb_) : w.heap.size ≤ gb56))
               have n13_:=a0_ ((by rw [hg];exact (below_size hb_) : w.heap.size ≤ gb56))
               have n14_:=a0_ ((by rw [hg];exact Nat.ne_of_lt (blk_lt (bb_ BK1.1)) : gb1 ≠ gb56))
               have n15_:=a0_ ((by rw [hg];exact Nat.ne_of_gt (blk_lt (bb_ BK1.1)) : gb56 ≠ gb1))
               have n16_:=a0_ ((by rw [hg];exact Nat.ne_of_lt (blk_lt (bb_ BK2.1)) : gb2 ≠ gb56))
               have n17_:=a0_ ((by rw [hg];exact Nat.ne_of_gt (blk_lt (bb_ BK2.1)) : gb56 ≠ gb2))
               have n18_:=a0_ ((by rw [hg];exact Nat.ne_of_lt (blk_lt (bb_ BK15.1)) : gb15 ≠ gb56))
               have n19_:=a0_ ((by rw [hg];exact Nat.ne_of_gt (blk_lt (bb_ BK15.1)) : gb56 ≠ gb15))
               have n20_:=a0_ ((by rw [hg];exact Nat.ne_of_lt (blk_lt (bb_ BK19.1)) : gb19 ≠ gb56))
               have n21_:=a0_ ((by rw [hg];exact Nat.ne_of_gt (blk_lt (bb_ BK19.1)) : gb56 ≠ gb19))
               have n22_:=a0_ ((by rw [hg];exact Nat.ne_of_lt (blk_lt (bb_ BK23.1)) : gb23 ≠ gb56))
               have n23_:=a0_ ((by rw [hg];exact Nat.ne_of_gt (blk_lt (bb_ BK23.1)) : gb56 ≠ gb23))
               have n24_:=a0_ ((by rw [hg];exact Nat.ne_of_lt (blk_lt (bb_ BK28.1)) : gb28 ≠ gb56))
               have n25_:=a0_ ((by rw [hg];exact Nat.ne_of_gt (blk_lt (bb_ BK28.1)) : gb56 ≠ gb28))
               clear Z16
               clear Z20
               clear Z24
               clear Z29
               clear BK1
               clear BK2
               clear BK15
               clear BK19
               clear BK23
               clear BK28
               clear HB
               have Z16:=n0_
               have Z20:=n1_
               have Z24:=n2_
               have Z29:=n3_
               have BK1:=n4_
               have BK2:=n5_
               have BK15:=n6_
               have BK19:=n7_
               have BK23:=n8_
               have BK28:=n9_
               have HB:=n10_
               have BK56:=n11_
               have GW56:=n12_
               have GE56:=n13_
               have NB1_56:=n14_
               have NB56_1:=n15_
               have NB2_56:=n16_
               have NB56_2:=n17_
               have NB15_56:=n18_
               have NB56_15:=n19_
               have NB19_56:=n20_
               have NB56_19:=n21_
               have NB23_56:=n22_
               have NB56_23:=n23_
               have NB28_56:=n24_
               have NB56_28:=n25_
               clear n0_ n1_ n2_ n3_ n4_ n5_ n6_ n7_ n8_ n9_ n10_ n11_ n12_ n13_ n14_ n15_ n16_ n17_ n18_ n19_ n20_ n21_ n22_ n23_ n24_ n25_
               clear hb hbox hg
               refine hK.out _ _ ⟨(blk_cell BK1.1 0).trans rfl,(blk_cell BK2.1 0).trans rfl⟩ (fun hHeld=>?_)
               clear hK K
               refine norm_ (a':=?_) ?_ ?_
               rotate_left
               ·show Act.put _ (some 19) _ = _
                simp only [Act.put,s1_,s2_,s3_,i64_w,i32_w]
                rfl
               refine one_ (i:=1) (N:=some 104) #[true,true,true,false,true,true,false,false,false,false,true,false,false] rfl rfl (one_of HT_.out (by kernel_rfl)) (by decide) (fun K hK=>?_)
               refine goes_ Try.func17 (by kernel_rfl) rfl #[.agg #[.slice A0_0 l0_0.length c0_0]] (by rfl) rfl rfl lm_ ?_
               with_reducible refine (laws_toTree.calls kj108 _ _ l0_0 t46 _ ?side1 ?side2 A172.1).mono ?_
               (case side1=>exact cc_ (C_below HR0_0.1 HB.1))
               (case side2=>exact HC0_0.1)
               rintro e w187 ⟨v47,rfl,ho0,hb⟩
               refine ⟨_,rfl,?_⟩
               have n0_:=rb_ Z16 hb
               have n1_:=a0_ (R_elder' (rr_ Z20.out) (R_base ho0) hb)
               have n2_:=rb_ Z24 hb
               have n3_:=rb_ Z29 hb
               have n4_:=a0_ (R_lower (R_new' ho0 (R_lt (rr_ Z20.out))) (below_size hb_))
               have n5_:=kb_ BK1 hb
               have n6_:=kb_ BK2 hb
               have n7_:=kb_ BK15 hb
               have n8_:=kb_ BK19 hb
               have n9_:=kb_ BK23 hb
               have n10_:=kb_ BK28 hb
               have n11_:=kb_ BK56 hb
               have n12_:=a0_ (below_step hb_ hb)
               clear Z16
               clear Z20
               clear Z24
               clear Z29
               clear BK1
               clear BK2
               clear BK15
               clear BK19
               clear BK23
               clear BK28
               clear BK56
               clear HB
               have Z16:=n0_
               have Z20:=n1_
               have Z24:=n2_
               have Z29:=n3_
               have HO48:=n4_
               have BK1:=n5_
               have BK2:=n6_
               have BK15:=n7_
               have BK19:=n8_
               have BK23:=n9_
               have BK28:=n10_
               have BK56:=n11_
               have HB:=n12_
               clear n0_ n1_ n2_ n3_ n4_ n5_ n6_ n7_ n8_ n9_ n10_ n11_ n12_
               (try clear hb)
               (try clear hb2)
               (try clear hk)
               (try clear hi)
               (try clear ho0)
               refine hK.out _ _ ⟨(blk_cell BK1.1 0).trans rfl,(blk_cell BK2.1 0).trans rfl⟩ (fun hHeld=>?_)
               clear hK K
               refine norm_ (a':=?_) ?_ ?_
               rotate_left
               ·show Act.put _ (some 104) _ = _
                simp only [Act.put,s1_,s2_,s3_,i64_w,i32_w]
                rfl
               refine one_ (i:=3) (N:=some 106) #[true,true,true,true,true,true,false,false,false,false,true,false,false] rfl rfl (one_of HT_.out (by kernel_rfl)) (by decide) (fun K hK=>?_)
               refine goes_ Try.func18 (by kernel_rfl) rfl #[.agg #[.slice A1_0 l1_0.length c1_0]] (by rfl) rfl rfl lm_ ?_
               with_reducible refine (laws_toHeap.calls kj108 _ _ l1_0 t49 _ ?side1 ?side2 A173.1).mono ?_
               (case side1=>exact cc_ (C_below HR1_0.1 HB.1))
               (case side2=>exact HC1_0.1)
               rintro e w188 ⟨v50,rfl,ho0,hb⟩
               refine ⟨_,rfl,?_⟩
               have n0_:=a0_ (R_elder' (rr_ Z16.out) (R_base ho0) hb)
               have n1_:=rb_ Z20 hb
               have n2_:=a0_ (R_elder' (rr_ Z24.out) (R_base ho0) hb)
               have n3_:=a0_ (R_elder' (rr_ Z29.out) (R_base ho0) hb)
               have n4_:=rb_ HO48 hb
               have n5_:=a0_ (R_lower (R_new' (R_new' (R_new' ho0 (R_lt (rr_ Z16.out))) (R_lt (rr_ Z24.out))) (R_lt (rr_ Z29.out))) (below_size hb_))
               have n6_:=kb_ BK1 hb
               have n7_:=kb_ BK2 hb
               have n8_:=kb_ BK15 hb
               have n9_:=kb_ BK19 hb
               have n10_:=kb_ BK23 hb
               have n11_:=kb_ BK28 hb
               have n12_:=kb_ BK56 hb
               have n13_:=a0_ (below_step hb_ hb)
               clear Z16
               clear Z20
               clear Z24
               clear Z29
               clear HO48
               clear BK1
               clear BK2
               clear BK15
               clear BK19
               clear BK23
               clear BK28
               clear BK56
               clear HB
               have Z16:=n0_
               have Z20:=n1_
               have Z24:=n2_
               have Z29:=n3_
               have HO48:=n4_
               have HO51:=n5_
               have BK1:=n6_
               have BK2:=n7_
               have BK15:=n8_
               have BK19:=n9_
               have BK23:=n10_
               have BK28:=n11_
               have BK56:=n12_
               have HB:=n13_
               clear n0_ n1_ n2_ n3_ n4_ n5_ n6_ n7_ n8_ n9_ n10_ n11_ n12_ n13_
               (try clear hb)
               (try clear hb2)
               (try clear hk)
               (try clear hi)
               (try clear ho0)
               obtain ⟨Ao189,co189,eo189⟩:=R_slice HO48.1
               (first | subst eo189 | (injection eo189 with f1_ f2_ f3_;have f4_:=f1_.symm;have f5_:=f3_.symm;clear f1_ f2_ f3_;subst f4_;subst f5_))
               obtain ⟨Ao190,co190,eo190⟩:=R_slice HO51.1
               (first | subst eo190 | (injection eo190 with f1_ f2_ f3_;have f4_:=f1_.symm;have f5_:=f3_.symm;clear f1_ f2_ f3_;subst f4_;subst f5_))
               refine hK.out _ _ ⟨(blk_cell BK1.1 0).trans rfl,(blk_cell BK2.1 0).trans rfl⟩ (fun hHeld=>?_)
               clear hK K
               refine norm_ (a':=?_) ?_ ?_
               rotate_left
               ·show Act.put _ (some 106) _ = _
                simp only [Act.put,s1_,s2_,s3_,i64_w,i32_w]
                rfl
               refine one_ (i:=6) (N:=some 109) #[true,true,true,true,true,true,true,false,false,false,true,false,false] rfl rfl (one_of HT_.out (by kernel_rfl)) (by decide) (fun K hK=>?_)
               refine goes_ Try.func43 (by kernel_rfl) rfl #[.agg #[.slice Ao189 t46.length co189],.agg #[.slice Ao190 t49.length co190],.int .i64 a2,.int .i64 a3] (by rfl) rfl rfl lm_ ?_
               with_reducible refine (impl_RaiseWhile.calls _ _ t46 _ _ t49 a2 a3 t52 t55 _ ?side1 ?side2 ?side3 ?side4 A174.1).mono ?_
               (case side1=>exact cc_ (R_reads' HO48.1).2.2)
               (case side2=>exact (R_reads' HO48.1).2.1)
               (case side3=>exact cc_ (R_reads' HO51.1).2.2)
               (case side4=>exact (R_reads' HO51.1).2.1)
               rintro e w191 ⟨v53,rfl,ho0,hb⟩
               refine ⟨_,rfl,?_⟩
               have n0_:=a0_ (R_elder' (rr_ Z16.out) (R_base ho0) hb)
               have n1_:=rb_ Z20 hb
               have n2_:=a0_ (R_elder' (rr_ Z24.out) (R_base ho0) hb)
               have n3_:=a0_ (R_elder' (rr_ Z29.out) (R_base ho0) hb)
               have n4_:=rb_ HO48 hb
               have n5_:=a0_ (R_elder' (rr_ HO51.1) (R_base ho0) hb)
               have n6_:=a0_ (R_lower (R_new' (R_new' (R_new' (R_new' ho0 (R_lt (rr_ Z16.out))) (R_lt (rr_ Z24.out))) (R_lt (rr_ Z29.out))) (R_lt (rr_ HO51.1))) (below_size hb_))
               have n7_:=kb_ BK1 hb
               have n8_:=kb_ BK2 hb
               have n9_:=kb_ BK15 hb
               have n10_:=kb_ BK19 hb
               have n11_:=kb_ BK23 hb
               have n12_:=kb_ BK28 hb
               have n13_:=kb_ BK56 hb
               have n14_:=a0_ (below_step hb_ hb)
               clear Z16
               clear Z20
               clear Z24
               clear Z29
               clear HO48
               clear HO51
               clear BK1
               clear BK2
               clear BK15
               clear BK19
               clear BK23
               clear BK28
               clear BK56
               clear HB
               have Z16:=n0_
               have Z20:=n1_
               have Z24:=n2_
               have Z29:=n3_
               have HO48:=n4_
               have HO51:=n5_
               have HO54:=n6_
               have BK1:=n7_
               have BK2:=n8_
               have BK15:=n9_
               have BK19:=n10_
               have BK23:=n11_
               have BK28:=n12_
               have BK56:=n13_
               have HB:=n14_
               clear n0_ n1_ n2_ n3_ n4_ n5_ n6_ n7_ n8_ n9_ n10_ n11_ n12_ n13_ n14_
               (try clear hb)
               (try clear hb2)
               (try clear hk)
               (try clear hi)
               (try clear ho0)
               refine hK.out _ _ ⟨(blk_cell BK1.1 0).trans rfl,(blk_cell BK2.1 0).trans rfl⟩ (fun hHeld=>?_)
               clear hK K
               refine norm_ (a':=?_) ?_ ?_
               rotate_left
               ·show Act.put _ (some 109) _ = _
                simp only [Act.put,s1_,s2_,s3_,i64_w,i32_w]
                rfl
               refine pure_ (i:=7) (N:=some 102) (v:=?_) (a':=?_) #[true,true,true,true,true,true,true,true,false,false,true,false,false] rfl rfl (any_of HT_.out (by kernel_rfl)) (fun _ _ _ h=>h) (Or.inl ⟨by rfl,?_⟩) ?_ ?_
               rotate_left
               ·intro w'
                go_simp
                with_reducible rfl
               rotate_left
               ·simp only [Act.put,s1_,s2_,s3_,i64_w,i32_w]
                rfl
               refine pure_ (i:=8) (N:=some 110) (v:=?_) (a':=?_) #[true,true,true,true,true,true,true,true,true,false,true,false,false] rfl rfl (any_of HT_.out (by kernel_rfl)) (fun _ _ _ h=>h) (Or.inl ⟨by rfl,?_⟩) ?_ ?_
               rotate_left
               ·intro w'
                go_simp
                with_reducible rfl
               rotate_left
               ·simp only [Act.put,s1_,s2_,s3_,i64_w,i32_w]
                rfl
               refine pure_ (i:=9) (N:=some 111) (v:=?_) (a':=?_) #[true,true,true,true,true,true,true,true,true,true,true,false,false] rfl rfl (any_of HT_.out (by kernel_rfl)) (fun _ _ _ h=>h) (Or.inl ⟨by rfl,?_⟩) ?_ ?_
               rotate_left
               ·intro w'
                go_simp
                with_reducible rfl
               rotate_left
               ·simp only [Act.put,s1_,s2_,s3_,i64_w,i32_w]
                rfl
               exact norm_ (by simp only [putAll,Act.put,s1_,s2_,s3_]) (hCont (.slice Ao189 t46.length co189,.slice Ao190 t49.length co190,v53,gb56) _ ⟨hHeld,(rm_ HO48.1 (fun _ hk=>hk.2)),(rm_ HO51.1 (fun _ hk=>⟨hk.2,⟨hk.1.1.1.2,⟨hk.1.1.2,hk.1.2⟩⟩⟩)),(rm_ HO54.1 (fun _ hk=>⟨hk.2,⟨hk.1.1.1.2,⟨hk.1.1.2,hk.1.2⟩⟩⟩)),(rm_ Z16.out (fun _ hk=>⟨hk.1.2,⟨hk.2,⟨hk.1.1.1,hk.1.1.2⟩⟩⟩)),(rm_ Z20.out (fun _ hk=>hk.2)),(rm_ Z24.out (fun _ hk=>⟨hk.1.2,⟨hk.2,⟨hk.1.1.1,hk.1.1.2⟩⟩⟩)),(rm_ Z29.out (fun _ hk=>⟨hk.1.2,⟨hk.2,⟨hk.1.1.1,hk.1.1.2⟩⟩⟩)),(bb_ BK1.1),(bb_ BK15.1),(bb_ BK19.1),(bb_ BK2.1),(bb_ BK23.1),(bb_ BK28.1),(bb_ BK56.1),GW56.1,GE56.1,NB1_56.1,NB56_1.1,NB15_56.1,NB56_15.1,NB19_56.1,NB56_19.1,NB2_56.1,NB56_2.1,NB23_56.1,NB56_23.1,NB28_56.1,NB56_28.1,hb_⟩)
             rintro ⟨v47,v50,v53,gb56⟩ w192 ⟨hS_,h0_,h1_,h2_,h3_,h4_,h5_,h6_,h7_,h8_,h9_,h10_,h11_,h12_,h13_,h14_,h15_,h16_,h17_,h18_,h19_,h20_,h21_,h22_,h23_,h24_,h25_,h26_,h27_,h28_⟩
             have n0_ : Aside0 (Kd.R k106 106 w192 w.heap.size (fun k_=>some k_ ≠ (.slice Ao49 t39.length co49 : Value).ownBlock) v47 t46):=⟨h0_⟩
             have n1_ : Aside0 (Kd.R k79 79 w192 w.heap.size (fun k_=>some k_ ≠ (v53 : Value).ownBlock ∧ some k_ ≠ (.slice Ao43 t11.length co43 : Value).ownBlock ∧ some k_ ≠ (.slice Ao58 t41.length co58 : Value).ownBlock ∧ some k_ ≠ (.slice Ao67 t24.length co67 : Value).ownBlock) v50 t49):=⟨h1_⟩
             have n2_ : Aside0 (Kd.R k79 79 w192 w.heap.size (fun k_=>some k_ ≠ (v50 : Value).ownBlock ∧ some k_ ≠ (.slice Ao43 t11.length co43 : Value).ownBlock ∧ some k_ ≠ (.slice Ao58 t41.length co58 : Value).ownBlock ∧ some k_ ≠ (.slice Ao67 t24.length co67 : Value).ownBlock) v53 t52):=⟨h2_⟩
             have n3_ : Aside0 (Kd.R k79 79 w192 w.heap.size (fun k_=>some k_ ≠ (v50 : Value).ownBlock ∧ some k_ ≠ (v53 : Value).ownBlock ∧ some k_ ≠ (.slice Ao58 t41.length co58 : Value).ownBlock ∧ some k_ ≠ (.slice Ao67 t24.length co67 : Value).ownBlock) (.slice Ao43 t11.length co43) t11):=⟨h3_⟩
             have n4_ : Aside0 (Kd.R k106 106 w192 w.heap.size (fun k_=>some k_ ≠ (v47 : Value).ownBlock) (.slice Ao49 t39.length co49) t39):=⟨h4_⟩
             have n5_ : Aside0 (Kd.R k79 79 w192 w.heap.size (fun k_=>some k_ ≠ (v50 : Value).ownBlock ∧ some k_ ≠ (v53 : Value).ownBlock ∧ some k_ ≠ (.slice Ao43 t11.length co43 : Value).ownBlock ∧ some k_ ≠ (.slice Ao67 t24.length co67 : Value).ownBlock) (.slice Ao58 t41.length co58) t41):=⟨h5_⟩
             have n6_ : Aside0 (Kd.R k79 79 w192 w.heap.size (fun k_=>some k_ ≠ (v50 : Value).ownBlock ∧ some k_ ≠ (v53 : Value).ownBlock ∧ some k_ ≠ (.slice Ao43 t11.length co43 : Value).ownBlock ∧ some k_ ≠ (.slice Ao58 t41.length co58 : Value).ownBlock) (.slice Ao67 t24.length co67) t44):=⟨h6_⟩
             have n7_ : Aside0 (w192.heap[gb1]? = some (.cells #[.slice A0_0 l0_0.length c0_0] 24 (0,0))):=⟨h7_⟩
             have n8_ : Aside0 (w192.heap[gb15]? = some (.cells #[.slice Ao43 t11.length co43] 37 (0,0))):=⟨h8_⟩
             have n9_ : Aside0 (w192.heap[gb19]? = some (.cells #[.slice Ao49 t39.length co49] 33 (0,0))):=⟨h9_⟩
             have n10_ : Aside0 (w192.heap[gb2]? = some (.cells #[.slice A1_0 l1_0.length c1_0] 27 (0,0))):=⟨h10_⟩
             have n11_ : Aside0 (w192.heap[gb23]? = some (.cells #[.slice Ao58 t41.length co58] 37 (0,0))):=⟨h11_⟩
             have n12_ : Aside0 (w192.heap[gb28]? = some (.cells #[.slice Ao67 t24.length co67] 37 (0,0))):=⟨h12_⟩
             have n13_ : Aside0 (w192.heap[gb56]? = some (.cells #[.slice none 0 0] 37 (0,0))):=⟨h13_⟩
             have n14_ : Aside0 (w.heap.size ≤ gb56):=⟨h14_⟩
             have n15_ : Aside0 (w.heap.size ≤ gb56):=⟨h15_⟩
             have n16_ : Aside0 (gb1 ≠ gb56):=⟨h16_⟩
             have n17_ : Aside0 (gb56 ≠ gb1):=⟨h17_⟩
             have n18_ : Aside0 (gb15 ≠ gb56):=⟨h18_⟩
             have n19_ : Aside0 (gb56 ≠ gb15):=⟨h19_⟩
             have n20_ : Aside0 (gb19 ≠ gb56):=⟨h20_⟩
             have n21_ : Aside0 (gb56 ≠ gb19):=⟨h21_⟩
             have n22_ : Aside0 (gb2 ≠ gb56):=⟨h22_⟩
             have n23_ : Aside0 (gb56 ≠ gb2):=⟨h23_⟩
             have n24_ : Aside0 (gb23 ≠ gb56):=⟨h24_⟩
             have n25_ : Aside0 (gb56 ≠ gb23):=⟨h25_⟩
             have n26_ : Aside0 (gb28 ≠ gb56):=⟨h26_⟩
             have n27_ : Aside0 (gb56 ≠ gb28):=⟨h27_⟩
             have n28_ : Aside0 (Below w.heap.size w w192):=⟨h28_⟩
             clear Z16
             clear Z20
             clear Z24
             clear Z29
             clear BK1
             clear BK2
             clear BK15
             clear BK19
             clear BK23
             clear BK28
             clear HB
             clear h0_ h1_ h2_ h3_ h4_ h5_ h6_ h7_ h8_ h9_ h10_ h11_ h12_ h13_ h14_ h15_ h16_ h17_ h18_ h19_ h20_ h21_ h22_ h23_ h24_ h25_ h26_ h27_ h28_
             have HO48:=n0_
             have HO51:=n1_
             have HO54:=n2_
             have Z16:=n3_
             have Z20:=n4_
             have Z24:=n5_
             have Z29:=n6_
             have BK1:=n7_
             have BK15:=n8_
             have BK19:=n9_
             have BK2:=n10_
             have BK23:=n11_
             have BK28:=n12_
             have BK56:=n13_
             have GW56:=n14_
             have GE56:=n15_
             have NB1_56:=n16_
             have NB56_1:=n17_
             have NB15_56:=n18_
             have NB56_15:=n19_
             have NB19_56:=n20_
             have NB56_19:=n21_
             have NB2_56:=n22_
             have NB56_2:=n23_
             have NB23_56:=n24_
             have NB56_23:=n25_
             have NB28_56:=n26_
             have NB56_28:=n27_
             have HB:=n28_
             clear n0_ n1_ n2_ n3_ n4_ n5_ n6_ n7_ n8_ n9_ n10_ n11_ n12_ n13_ n14_ n15_ n16_ n17_ n18_ n19_ n20_ n21_ n22_ n23_ n24_ n25_ n26_ n27_ n28_
             have hHeld : w192.cell? ⟨gb1,0,none⟩ = some (.slice A0_0 l0_0.length c0_0) ∧ w192.cell? ⟨gb2,0,none⟩ = some (.slice A1_0 l1_0.length c1_0):=hS_
             obtain ⟨Ao193,co193,eo193⟩:=R_slice HO54.1
             (first | subst eo193 | (injection eo193 with f1_ f2_ f3_;have f4_:=f1_.symm;have f5_:=f3_.symm;clear f1_ f2_ f3_;subst f4_;subst f5_))
             refine norm_ (a':=?_) ?_ ?_
             rotate_left
             ·simp only [putAll,Act.put,s1_,s2_,s3_]
              rfl
             refine one_ (i:=11) (N:=none) #[true,true,true,true,true,true,true,true,true,true,true,true,false] rfl rfl (one_of HT_.out (by kernel_rfl)) (by decide) (fun K hK=>?_)
             have hs194 : w192.cell? ⟨gb56,0,none⟩ = some (.slice none 0 0):=(blk_cell BK56.1 0).trans rfl
             have hfs194:=blk_frozen BK56.1 0
             have hns194_0:=NB1_56.1
             have hns194_1:=NB2_56.1
             have hns194_2:=NB15_56.1
             have hns194_3:=NB19_56.1
             have hns194_4:=NB23_56.1
             have hns194_5:=NB28_56.1
             have hms194_0:=NB56_1.1
             have hms194_1:=NB56_2.1
             have hms194_2:=NB56_15.1
             have hms194_3:=NB56_19.1
             have hms194_4:=NB56_23.1
             have hms194_5:=NB56_28.1
             refine skip_ (w1:=?_) (by rfl) rfl ?_ ?_
             rotate_left
             ·go_simp
              rfl
             refine hK.out _ _ ⟨((cell_far (p:=⟨gb56,_,none⟩) NB1_56.1 _).trans (hHeld.1)),((cell_far (p:=⟨gb56,_,none⟩) NB2_56.1 _).trans (hHeld.2))⟩ (fun hHeld=>?_)
             clear hK K
             refine pure_ (i:=12) (N:=some 20) (v:=?_) (a':=?_) #[true,true,true,true,true,true,true,true,true,true,true,true,true] rfl rfl (any_of HT_.out (by kernel_rfl)) (fun _ _ _ h=>h) (Or.inl ⟨by rfl,?_⟩) ?_ ?_
             rotate_left
             ·intro w'
              go_simp
              with_reducible rfl
             rotate_left
             ·simp only [Act.put,s1_,s2_,s3_,i64_w,i32_w]
              rfl
             refine done_ (done_of HT_.out (by kernel_rfl)) ?_
             go_upto_region 32 with (fail)
             go_cut [120] (fun v120 wc=>∃ (kq : Nat) (x120_174 : Bool),v120 = .bool x120_174 ∧ Aside0 (laws_FnExactRaiseWhile.j2 kq t43 x120_174 t44 = some r) ∧ Aside0 (kq ≤ kj108) ∧ Aside0 (Kd.R k79 79 wc w.heap.size (fun k_=>some k_ ≠ ((.slice Ao58 t41.length co58) : Value).ownBlock ∧ some k_ ≠ ((.slice Ao67 t24.length co67) : Value).ownBlock ∧ some k_ ≠ ((.slice Ao193 t52.length co193) : Value).ownBlock) (.slice Ao43 t11.length co43) t11) ∧ Aside0 (Kd.R k106 106 wc w.heap.size (fun _=>True) (.slice Ao49 t39.length co49) t39) ∧ Aside0 (Kd.R k79 79 wc w.heap.size (fun k_=>some k_ ≠ ((.slice Ao43 t11.length co43) : Value).ownBlock ∧ some k_ ≠ ((.slice Ao67 t24.length co67) : Value).ownBlock ∧ some k_ ≠ ((.slice Ao193 t52.length co193) : Value).ownBlock) (.slice Ao58 t41.length co58) t41) ∧ Aside0 (Kd.R k79 79 wc w.heap.size (fun k_=>some k_ ≠ ((.slice Ao43 t11.length co43) : Value).ownBlock ∧ some k_ ≠ ((.slice Ao58 t41.length co58) : Value).ownBlock ∧ some k_ ≠ ((.slice Ao193 t52.length co193) : Value).ownBlock) (.slice Ao67 t24.length co67) t44) ∧ Aside0 (Kd.R k79 79 wc w.heap.size (fun k_=>some k_ ≠ ((.slice Ao43 t11.length co43) : Value).ownBlock ∧ some k_ ≠ ((.slice Ao58 t41.length co58) : Value).ownBlock ∧ some k_ ≠ ((.slice Ao67 t24.length co67) : Value).ownBlock) (.slice Ao193 t52.length co193) t52) ∧ Aside0 (wc.heap[gb1]? = some (.cells #[(.slice A0_0 l0_0.length c0_0)] 24 (0,0))) ∧ Aside0 (wc.heap[gb2]? = some (.cells #[(.slice A1_0 l1_0.length c1_0)] 27 (0,0))) ∧ Aside0 (wc.heap[gb15]? = some (.cells #[(.slice Ao43 t11.length co43)] 37 (0,0))) ∧ Aside0 (wc.heap[gb19]? = some (.cells #[(.slice Ao49 t39.length co49)] 33 (0,0))) ∧ Aside0 (wc.heap[gb23]? = some (.cells #[(.slice Ao58 t41.length co58)] 37 (0,0))) ∧ Aside0 (wc.heap[gb28]? = some (.cells #[(.slice Ao67 t24.length co67)] 37 (0,0))) ∧ Aside0 (wc.heap[gb56]? = some (.cells #[(.slice Ao193 t52.length co193)] 37 (0,0))) ∧ Aside0 (Below w.heap.size w wc))
             case first =>
              have H:=HC175.1
              clear HC175
              replace H:=Option.bind_eq_some_iff.mp H
              obtain ⟨t57,A1950,H⟩:=H
              replace H : (if t57 = true then (laws_FnExactRaiseWhile.j2 kj108 t43 (t55 != t14) t44) else (laws_FnExactRaiseWhile.j2 kj108 t43 true t44)) = some r:=H
              have A195:=a0_ A1950
              clear A1950
              by_cases c196 : t57 = true
              ·subst c196
               have H1 : (laws_FnExactRaiseWhile.j2 kj108 t43 (t55 != t14) t44) = some r:=by rw [if_pos rfl] at H;exact H
               clear H
               have H:=H1
               clear H1
               have H':=a0_ H
               clear H
               have hnb197:=NB56_1.1
               have hnc197:=NB1_56.1
               have hnb198:=NB56_2.1
               have hnc198:=NB2_56.1
               have hnb199:=NB56_15.1
               have hnc199:=NB15_56.1
               have hnb200:=NB56_19.1
               have hnc200:=NB19_56.1
               have hnb201:=NB56_23.1
               have hnc201:=NB23_56.1
               have hnb202:=NB56_28.1
               have hnc202:=NB28_56.1
               have hcz203_0 : w192.cell? ⟨gb56,0,none⟩ = some (.slice none 0 0):=(blk_cell BK56.1 0).trans rfl
               have hfz203_0:=blk_frozen BK56.1 0
               have hnb204:=NB15_1.1
               have hnc204:=NB1_15.1
               have hnb205:=NB15_2.1
               have hnc205:=NB2_15.1
               have hnb206:=NB15_19.1
               have hnc206:=NB19_15.1
               have hnb207:=NB15_23.1
               have hnc207:=NB23_15.1
               have hnb208:=NB15_28.1
               have hnc208:=NB28_15.1
               have hcz209_0 : w192.cell? ⟨gb15,0,none⟩ = some (.slice Ao43 t11.length co43):=(blk_cell BK15.1 0).trans rfl
               have hfz209_0:=blk_frozen BK15.1 0
               go_wp2_with (first | ((with_reducible refine gate_callee (f:=21) rfl ?_);refine goesL_ (some 114) rfl rfl Try.func21 (by kernel_rfl) rfl #[.agg #[.slice Ao193 t52.length co193],.agg #[.slice Ao43 t11.length co43]] rfl lm_ ?_;(with_reducible refine (laws_eqHeap.calls kj108 _ _ t52 _ _ t11 true _ ?side1 ?side2 ?side3 ?side4 A195.1).mono ?_);(case side1=>refine (R_reads' (e:=79) (base:=w.heap.size) (ok:=fun k_=>(some k_ ≠ (v50 : Value).ownBlock ∧ (some k_ ≠ (.slice Ao43 t11.length co43 : Value).ownBlock ∧ (some k_ ≠ (.slice Ao58 t41.length co58 : Value).ownBlock ∧ some k_ ≠ (.slice Ao67 t24.length co67 : Value).ownBlock)))) (n:=t52.length) (c:=co193) ?_).2.2;exact (by (with_reducible repeat (first | apply R_alloc | apply R_drewN | apply R_drew));exact (R_mono (R_far (p:=⟨gb56,0,none⟩) (R_types HO54.1 BK56.1 (by decide)) (fun _ hk=>hk.2) (.slice Ao193 t52.length co193)) (fun _ h_=>h_.1))));(case side2=>exact (R_reads' HO54.1).2.1);(case side3=>refine (R_reads' (e:=79) (base:=w.heap.size) (ok:=fun k_=>(some k_ ≠ (v50 : Value).ownBlock ∧ (some k_ ≠ (.slice Ao193 t52.length co193 : Value).ownBlock ∧ (some k_ ≠ (.slice Ao58 t41.length co58 : Value).ownBlock ∧ some k_ ≠ (.slice Ao67 t24.length co67 : Value).ownBlock)))) (n:=t11.length) (c:=co43) ?_).2.2;exact (by (with_reducible repeat (first | apply R_alloc | apply R_drewN | apply R_drew));exact (R_mono (R_far (p:=⟨gb56,0,none⟩) (R_types Z16.out BK56.1 (by decide)) (fun _ hk=>hk.2) (.slice Ao193 t52.length co193)) (fun _ h_=>h_.1))));(case side4=>exact (R_reads' Z16.out).2.1);rintro e w210 ⟨rfl,hb⟩;refine ⟨_,rfl,?_⟩;replace Z16:=a0_ (R_below (by (with_reducible repeat (first | apply R_alloc | apply R_drewN | apply R_drew));exact (R_mono (R_far (p:=⟨gb56,0,none⟩) (R_types Z16.out BK56.1 (by decide)) (fun _ hk=>hk.2) (.slice Ao193 t52.length co193)) (fun _ h_=>h_.1))) hb);replace Z20:=a0_ (R_below (by (with_reducible repeat (first | apply R_alloc | apply R_drewN | apply R_drew));exact (R_mono (R_far (p:=⟨gb56,0,none⟩) (R_types Z20.out BK56.1 (by decide)) (fun _ hk=>hk.2) (.slice Ao193 t52.length co193)) (fun _ h_=>h_.1))) hb);replace Z24:=a0_ (R_below (by (with_reducible repeat (first | apply R_alloc | apply R_drewN | apply R_drew));exact (R_mono (R_far (p:=⟨gb56,0,none⟩) (R_types Z24.out BK56.1 (by decide)) (fun _ hk=>hk.2) (.slice Ao193 t52.length co193)) (fun _ h_=>h_.1))) hb);replace Z29:=a0_ (R_below (by (with_reducible repeat (first | apply R_alloc | apply R_drewN | apply R_drew));exact (R_mono (R_far (p:=⟨gb56,0,none⟩) (R_types Z29.out BK56.1 (by decide)) (fun _ hk=>hk.2) (.slice Ao193 t52.length co193)) (fun _ h_=>h_.1))) hb);replace HO48:=a0_ (R_below (by (with_reducible repeat (first | apply R_alloc | apply R_drewN | apply R_drew));exact (R_mono (R_far (p:=⟨gb56,0,none⟩) (R_types HO48.1 BK56.1 (by decide)) (fun _ hk=>hk.2) (.slice Ao193 t52.length co193)) (fun _ h_=>h_.1))) hb);replace HO51:=a0_ (R_below (by (with_reducible repeat (first | apply R_alloc | apply R_drewN | apply R_drew));exact (R_mono (R_far (p:=⟨gb56,0,none⟩) (R_types HO51.1 BK56.1 (by decide)) (fun _ hk=>hk.2) (.slice Ao193 t52.length co193)) (fun _ h_=>h_.1))) hb);replace HO54:=a0_ (R_below (by (with_reducible repeat (first | apply R_alloc | apply R_drewN | apply R_drew));exact (R_mono (R_far (p:=⟨gb56,0,none⟩) (R_types HO54.1 BK56.1 (by decide)) (fun _ hk=>hk.2) (.slice Ao193 t52.length co193)) (fun _ h_=>h_.1))) hb);replace BK1:=kf_ BK1 NB1_56 hb;replace BK2:=kf_ BK2 NB2_56 hb;replace BK15:=kf_ BK15 NB15_56 hb;replace BK19:=kf_ BK19 NB19_56 hb;replace BK23:=kf_ BK23 NB23_56 hb;replace BK28:=kf_ BK28 NB28_56 hb;replace BK56:=a0_ (blk_below (g:=gb56) (o:=.cells #[.slice Ao193 t52.length co193] 37 (0,0)) (by (with_reducible repeat (first | refine blk_drewN ?_ _ | refine blk_drew ?_ | refine blk_alloc ?_ _));refine blk_put (cs:=#[.slice none 0 0]) ?_ 0 _ rfl;(with_reducible repeat (first | refine blk_drewN ?_ _ | refine blk_drew ?_ | refine blk_alloc ?_ _));exact BK56.1) hb);replace HB:=a0_ (below_step hb_ hb);(try clear hb);(try clear hb2);(try clear hk);(try clear hi)))
               go_meet
               case rel=>exact ⟨_,((t55 != t14)),(by first | rfl | (simp;done) | (simp [*];done)),H',⟨by have:=HJ26.out;have:=HJ108.out;first | omega | exact Nat.le_refl _⟩,⟨by (try simp only [hl20000_108]);(try simp only [hl24000_108]);(with_reducible repeat (first | apply R_alloc | apply R_drewN | apply R_drew));exact R_mono Z16.out (fun _ hk=>⟨hk.2.2.1,⟨hk.2.2.2,hk.2.1⟩⟩)⟩,⟨by (try simp only [hl20000_108]);(try simp only [hl24000_108]);(with_reducible repeat (first | apply R_alloc | apply R_drewN | apply R_drew));exact R_mono Z20.out (fun _ hk=>trivial)⟩,⟨by (try simp only [hl20000_108]);(try simp only [hl24000_108]);(with_reducible repeat (first | apply R_alloc | apply R_drewN | apply R_drew));exact R_mono Z24.out (fun _ hk=>⟨hk.2.2.1,⟨hk.2.2.2,hk.2.1⟩⟩)⟩,⟨by (try simp only [hl20000_108]);(try simp only [hl24000_108]);(with_reducible repeat (first | apply R_alloc | apply R_drewN | apply R_drew));exact R_mono Z29.out (fun _ hk=>⟨hk.2.2.1,⟨hk.2.2.2,hk.2.1⟩⟩)⟩,⟨by (try simp only [hl20000_108]);(try simp only [hl24000_108]);(with_reducible repeat (first | apply R_alloc | apply R_drewN | apply R_drew));exact R_mono HO54.1 (fun _ hk=>⟨hk.2.1,⟨hk.2.2.1,hk.2.2.2⟩⟩)⟩,⟨by (try simp only [hl20000_108]);(try simp only [hl24000_108]);(with_reducible repeat (first | refine blk_drewN ?_ _ | refine blk_drew ?_ | refine blk_alloc ?_ _));exact BK1.1⟩,⟨by (try simp only [hl20000_108]);(try simp only [hl24000_108]);(with_reducible repeat (first | refine blk_drewN ?_ _ | refine blk_drew ?_ | refine blk_alloc ?_ _));exact BK2.1⟩,⟨by (try simp only [hl20000_108]);(try simp only [hl24000_108]);(with_reducible repeat (first | refine blk_drewN ?_ _ | refine blk_drew ?_ | refine blk_alloc ?_ _));exact BK15.1⟩,⟨by (try simp only [hl20000_108]);(try simp only [hl24000_108]);(with_reducible repeat (first | refine blk_drewN ?_ _ | refine blk_drew ?_ | refine blk_alloc ?_ _));exact BK19.1⟩,⟨by (try simp only [hl20000_108]);(try simp only [hl24000_108]);(with_reducible repeat (first | refine blk_drewN ?_ _ | refine blk_drew ?_ | refine blk_alloc ?_ _));exact BK23.1⟩,⟨by (try simp only [hl20000_108]);(try simp only [hl24000_108]);(with_reducible repeat (first | refine blk_drewN ?_ _ | refine blk_drew ?_ | refine blk_alloc ?_ _));exact BK28.1⟩,⟨by (try simp only [hl20000_108]);(try simp only [hl24000_108]);(with_reducible repeat (first | refine blk_drewN ?_ _ | refine blk_drew ?_ | refine blk_alloc ?_ _));exact BK56.1⟩,⟨hb_⟩⟩
              ·replace c196:=Bool.eq_false_iff.mpr c196
               subst c196
               have H1 : (laws_FnExactRaiseWhile.j2 kj108 t43 true t44) = some r:=by rw [if_neg (show ¬ (false = true) by decide)] at H;exact H
               clear H
               have H:=H1
               clear H1
               have H':=a0_ H
               clear H
               have hnb211:=NB56_1.1
               have hnc211:=NB1_56.1
               have hnb212:=NB56_2.1
               have hnc212:=NB2_56.1
               have hnb213:=NB56_15.1
               have hnc213:=NB15_56.1
               have hnb214:=NB56_19.1
               have hnc214:=NB19_56.1
               have hnb215:=NB56_23.1
               have hnc215:=NB23_56.1
               have hnb216:=NB56_28.1
               have hnc216:=NB28_56.1
               have hcz217_0 : w192.cell? ⟨gb56,0,none⟩ = some (.slice none 0 0):=(blk_cell BK56.1 0).trans rfl
               have hfz217_0:=blk_frozen BK56.1 0
               have hnb218:=NB15_1.1
               have hnc218:=NB1_15.1
               have hnb219:=NB15_2.1
               have hnc219:=NB2_15.1
               have hnb220:=NB15_19.1
               have hnc220:=NB19_15.1
               have hnb221:=NB15_23.1
               have hnc221:=NB23_15.1
               have hnb222:=NB15_28.1
               have hnc222:=NB28_15.1
               have hcz223_0 : w192.cell? ⟨gb15,0,none⟩ = some (.slice Ao43 t11.length co43):=(blk_cell BK15.1 0).trans rfl
               have hfz223_0:=blk_frozen BK15.1 0
               go_wp2_with (first | ((with_reducible refine gate_callee (f:=21) rfl ?_);refine goesL_ (some 114) rfl rfl Try.func21 (by kernel_rfl) rfl #[.agg #[.slice Ao193 t52.length co193],.agg #[.slice Ao43 t11.length co43]] rfl lm_ ?_;(with_reducible refine (laws_eqHeap.calls kj108 _ _ t52 _ _ t11 false _ ?side1 ?side2 ?side3 ?side4 A195.1).mono ?_);(case side1=>refine (R_reads' (e:=79) (base:=w.heap.size) (ok:=fun k_=>(some k_ ≠ (v50 : Value).ownBlock ∧ (some k_ ≠ (.slice Ao43 t11.length co43 : Value).ownBlock ∧ (some k_ ≠ (.slice Ao58 t41.length co58 : Value).ownBlock ∧ some k_ ≠ (.slice Ao67 t24.length co67 : Value).ownBlock)))) (n:=t52.length) (c:=co193) ?_).2.2;exact (by (with_reducible repeat (first | apply R_alloc | apply R_drewN | apply R_drew));exact (R_mono (R_far (p:=⟨gb56,0,none⟩) (R_types HO54.1 BK56.1 (by decide)) (fun _ hk=>hk.2) (.slice Ao193 t52.length co193)) (fun _ h_=>h_.1))));(case side2=>exact (R_reads' HO54.1).2.1);(case side3=>refine (R_reads' (e:=79) (base:=w.heap.size) (ok:=fun k_=>(some k_ ≠ (v50 : Value).ownBlock ∧ (some k_ ≠ (.slice Ao193 t52.length co193 : Value).ownBlock ∧ (some k_ ≠ (.slice Ao58 t41.length co58 : Value).ownBlock ∧ some k_ ≠ (.slice Ao67 t24.length co67 : Value).ownBlock)))) (n:=t11.length) (c:=co43) ?_).2.2;exact (by (with_reducible repeat (first | apply R_alloc | apply R_drewN | apply R_drew));exact (R_mono (R_far (p:=⟨gb56,0,none⟩) (R_types Z16.out BK56.1 (by decide)) (fun _ hk=>hk.2) (.slice Ao193 t52.length co193)) (fun _ h_=>h_.1))));(case side4=>exact (R_reads' Z16.out).2.1);rintro e w224 ⟨rfl,hb⟩;refine ⟨_,rfl,?_⟩;replace Z16:=a0_ (R_below (by (with_reducible repeat (first | apply R_alloc | apply R_drewN | apply R_drew));exact (R_mono (R_far (p:=⟨gb56,0,none⟩) (R_types Z16.out BK56.1 (by decide)) (fun _ hk=>hk.2) (.slice Ao193 t52.length co193)) (fun _ h_=>h_.1))) hb);replace Z20:=a0_ (R_below (by (with_reducible repeat (first | apply R_alloc | apply R_drewN | apply R_drew));exact (R_mono (R_far (p:=⟨gb56,0,none⟩) (R_types Z20.out BK56.1 (by decide)) (fun _ hk=>hk.2) (.slice Ao193 t52.length co193)) (fun _ h_=>h_.1))) hb);replace Z24:=a0_ (R_below (by (with_reducible repeat (first | apply R_alloc | apply R_drewN | apply R_drew));exact (R_mono (R_far (p:=⟨gb56,0,none⟩) (R_types Z24.out BK56.1 (by decide)) (fun _ hk=>hk.2) (.slice Ao193 t52.length co193)) (fun _ h_=>h_.1))) hb);replace Z29:=a0_ (R_below (by (with_reducible repeat (first | apply R_alloc | apply R_drewN | apply R_drew));exact (R_mono (R_far (p:=⟨gb56,0,none⟩) (R_types Z29.out BK56.1 (by decide)) (fun _ hk=>hk.2) (.slice Ao193 t52.length co193)) (fun _ h_=>h_.1))) hb);replace HO48:=a0_ (R_below (by (with_reducible repeat (first | apply R_alloc | apply R_drewN | apply R_drew));exact (R_mono (R_far (p:=⟨gb56,0,none⟩) (R_types HO48.1 BK56.1 (by decide)) (fun _ hk=>hk.2) (.slice Ao193 t52.length co193)) (fun _ h_=>h_.1))) hb);replace HO51:=a0_ (R_below (by (with_reducible repeat (first | apply R_alloc | apply R_drewN | apply R_drew));exact (R_mono (R_far (p:=⟨gb56,0,none⟩) (R_types HO51.1 BK56.1 (by decide)) (fun _ hk=>hk.2) (.slice Ao193 t52.length co193)) (fun _ h_=>h_.1))) hb);replace HO54:=a0_ (R_below (by (with_reducible repeat (first | apply R_alloc | apply R_drewN | apply R_drew));exact (R_mono (R_far (p:=⟨gb56,0,none⟩) (R_types HO54.1 BK56.1 (by decide)) (fun _ hk=>hk.2) (.slice Ao193 t52.length co193)) (fun _ h_=>h_.1))) hb);replace BK1:=kf_ BK1 NB1_56 hb;replace BK2:=kf_ BK2 NB2_56 hb;replace BK15:=kf_ BK15 NB15_56 hb;replace BK19:=kf_ BK19 NB19_56 hb;replace BK23:=kf_ BK23 NB23_56 hb;replace BK28:=kf_ BK28 NB28_56 hb;replace BK56:=a0_ (blk_below (g:=gb56) (o:=.cells #[.slice Ao193 t52.length co193] 37 (0,0)) (by (with_reducible repeat (first | refine blk_drewN ?_ _ | refine blk_drew ?_ | refine blk_alloc ?_ _));refine blk_put (cs:=#[.slice none 0 0]) ?_ 0 _ rfl;(with_reducible repeat (first | refine blk_drewN ?_ _ | refine blk_drew ?_ | refine blk_alloc ?_ _));exact BK56.1) hb);replace HB:=a0_ (below_step hb_ hb);(try clear hb);(try clear hb2);(try clear hk);(try clear hi)))
               go_meet
               case rel=>exact ⟨_,(true),(by first | rfl | (simp;done) | (simp [*];done)),H',⟨by have:=HJ26.out;have:=HJ108.out;first | omega | exact Nat.le_refl _⟩,⟨by (try simp only [hl20000_108]);(try simp only [hl24000_108]);(with_reducible repeat (first | apply R_alloc | apply R_drewN | apply R_drew));exact R_mono Z16.out (fun _ hk=>⟨hk.2.2.1,⟨hk.2.2.2,hk.2.1⟩⟩)⟩,⟨by (try simp only [hl20000_108]);(try simp only [hl24000_108]);(with_reducible repeat (first | apply R_alloc | apply R_drewN | apply R_drew));exact R_mono Z20.out (fun _ hk=>trivial)⟩,⟨by (try simp only [hl20000_108]);(try simp only [hl24000_108]);(with_reducible repeat (first | apply R_alloc | apply R_drewN | apply R_drew));exact R_mono Z24.out (fun _ hk=>⟨hk.2.2.1,⟨hk.2.2.2,hk.2.1⟩⟩)⟩,⟨by (try simp only [hl20000_108]);(try simp only [hl24000_108]);(with_reducible repeat (first | apply R_alloc | apply R_drewN | apply R_drew));exact R_mono Z29.out (fun _ hk=>⟨hk.2.2.1,⟨hk.2.2.2,hk.2.1⟩⟩)⟩,⟨by (try simp only [hl20000_108]);(try simp only [hl24000_108]);(with_reducible repeat (first | apply R_alloc | apply R_drewN | apply R_drew));exact R_mono HO54.1 (fun _ hk=>⟨hk.2.1,⟨hk.2.2.1,hk.2.2.2⟩⟩)⟩,⟨by (try simp only [hl20000_108]);(try simp only [hl24000_108]);(with_reducible repeat (first | refine blk_drewN ?_ _ | refine blk_drew ?_ | refine blk_alloc ?_ _));exact BK1.1⟩,⟨by (try simp only [hl20000_108]);(try simp only [hl24000_108]);(with_reducible repeat (first | refine blk_drewN ?_ _ | refine blk_drew ?_ | refine blk_alloc ?_ _));exact BK2.1⟩,⟨by (try simp only [hl20000_108]);(try simp only [hl24000_108]);(with_reducible repeat (first | refine blk_drewN ?_ _ | refine blk_drew ?_ | refine blk_alloc ?_ _));exact BK15.1⟩,⟨by (try simp only [hl20000_108]);(try simp only [hl24000_108]);(with_reducible repeat (first | refine blk_drewN ?_ _ | refine blk_drew ?_ | refine blk_alloc ?_ _));exact BK19.1⟩,⟨by (try simp only [hl20000_108]);(try simp only [hl24000_108]);(with_reducible repeat (first | refine blk_drewN ?_ _ | refine blk_drew ?_ | refine blk_alloc ?_ _));exact BK23.1⟩,⟨by (try simp only [hl20000_108]);(try simp only [hl24000_108]);(with_reducible repeat (first | refine blk_drewN ?_ _ | refine blk_drew ?_ | refine blk_alloc ?_ _));exact BK28.1⟩,⟨by (try simp only [hl20000_108]);(try simp only [hl24000_108]);(with_reducible repeat (first | refine blk_drewN ?_ _ | refine blk_drew ?_ | refine blk_alloc ?_ _));exact BK56.1⟩,⟨hb_⟩⟩
             case rest =>
              clear HC175
              try clear c1
              try clear c2
              try clear p2
              try clear c4
              try clear c17
              try clear c18
              try clear c19
              try clear c20
              try clear c21
              try clear c22
              try clear c43
              try clear c196
              try clear c197
              try clear c198
              try clear c199
              try clear c200
              try clear c201
              try clear c202
              try clear c204
              try clear c205
              try clear c206
              try clear c207
              try clear c208
              try clear c211
              try clear c212
              try clear c213
              try clear c214
              try clear c215
              try clear c216
              try clear c218
              try clear c219
              try clear c220
              try clear c221
              try clear c222
              try clear hcz203_0
              try clear hcz209_0
              try clear hcz217_0
              try clear hcz223_0
              try clear hfz203_0
              try clear hfz209_0
              try clear hfz217_0
              try clear hfz223_0
              obtain ⟨kq,x120_174,rfl,HA,HJ174,Z16,Z20,Z24,Z29,Z57,BK1,BK2,BK15,BK19,BK23,BK28,BK56,HB⟩:=hcut
              have hl29000_174:=(R_reads' Z29.out).1
              rw [hl29000_174] at Z29
              (try simp only [hl29000_174])
              (try simp only [hl29000_174] at BK1)
              (try simp only [hl29000_174] at BK2)
              (try simp only [hl29000_174] at BK15)
              (try simp only [hl29000_174] at BK19)
              (try simp only [hl29000_174] at BK23)
              (try simp only [hl29000_174] at BK28)
              (try simp only [hl29000_174] at BK56)
              (try simp only [hl29000_174] at Z16)
              (try simp only [hl29000_174] at Z20)
              (try simp only [hl29000_174] at Z24)
              (try simp only [hl29000_174] at Z57)
              cases kq with
              | zero=>exact absurd HA.out (by simp [laws_FnExactRaiseWhile.j2])
              | succ kj174 =>
               have H:=HA.out
               clear HA
               simp only [laws_FnExactRaiseWhile.j2] at H
               by_cases c225 : x120_174 = true
               ·subst c225
                have H1 : (some false) = some r:=by rw [if_pos rfl] at H;exact H
                clear H
                have H:=H1
                clear H1
                obtain rfl:=Option.some.inj H
                go_wp2
                go_ret
                exact ⟨by first | rfl | (simp [errW_none,errW_some] <;> rfl) | (simp [*,errW_none,errW_some] <;> rfl),hb_⟩
               ·replace c225:=Bool.eq_false_iff.mpr c225
                subst c225
                have H1 : ((laws_heldHeap.f kj174 t44 1).bind fun t58=>(if t58 < 0 then (some false) else (if t58 = t43 then (some true) else (some false)))) = some r:=by rw [if_neg (show ¬ (false = true) by decide)] at H;exact H
                clear H
                have H:=H1
                clear H1
                replace H:=Option.bind_eq_some_iff.mp H
                obtain ⟨t58,A2260,H⟩:=H
                replace H : (if t58 < 0 then (some false) else (if t58 = t43 then (some true) else (some false))) = some r:=H
                have A226:=a0_ A2260
                clear A2260
                by_cases c227 : t58 < 0
                ·rw [if_pos c227] at H
                 have c227b0 : decide (t58 < 0) = true:=decide_eq_true c227
                 clear c227
                 obtain rfl:=Option.some.inj H
                 have hnb228:=NB28_1.1
                 have hnc228:=NB1_28.1
                 have hnb229:=NB28_2.1
                 have hnc229:=NB2_28.1
                 have hnb230:=NB28_15.1
                 have hnc230:=NB15_28.1
                 have hnb231:=NB28_19.1
                 have hnc231:=NB19_28.1
                 have hnb232:=NB28_23.1
                 have hnc232:=NB23_28.1
                 have hnb233:=NB28_56.1
                 have hnc233:=NB56_28.1
                 have hcz234_0 : wc.cell? ⟨gb28,0,none⟩ = some (.slice Ao67 t44.length co67):=(blk_cell BK28.1 0).trans rfl
                 have hfz234_0:=blk_frozen BK28.1 0
                 go_wp2_with (first | ((with_reducible refine gate_callee (f:=37) rfl ?_);refine goesL_ (some 123) rfl rfl Try.func37 (by kernel_rfl) rfl #[.agg #[.slice Ao67 t44.length co67],.int .i64 1] rfl lm_ ?_;(with_reducible refine (laws_heldHeap.calls kj174 _ _ t44 1 t58 _ ?side1 ?side2 A226.1).mono ?_);(case side1=>exact cc_ (R_reads' Z29.out).2.2);(case side2=>exact (R_reads' Z29.out).2.1);rintro e w235 ⟨rfl,hb⟩;refine ⟨_,rfl,?_⟩;replace Z16:=rb_ Z16 hb;replace Z20:=rb_ Z20 hb;replace Z24:=rb_ Z24 hb;replace Z29:=rb_ Z29 hb;replace Z57:=rb_ Z57 hb;replace BK1:=kb_ BK1 hb;replace BK2:=kb_ BK2 hb;replace BK15:=kb_ BK15 hb;replace BK19:=kb_ BK19 hb;replace BK23:=kb_ BK23 hb;replace BK28:=kb_ BK28 hb;replace BK56:=kb_ BK56 hb;replace HB:=a0_ (below_step hb_ hb);(try clear hb);(try clear hb2);(try clear hk);(try clear hi)))
                 go_ret
                 exact ⟨by first | rfl | (simp [errW_none,errW_some] <;> rfl) | (simp [*,errW_none,errW_some] <;> rfl),hb_⟩
                ·rw [if_neg c227] at H
                 have c227b0 : decide (t58 < 0) = false:=decide_eq_false c227
                 clear c227
                 by_cases c236 : t58 = t43
                 ·rw [if_pos c236] at H
                  have c236b0 : (t58 == t43) = true:=beq_iff_eq.mpr c236
                  have c236b1 : (t58 != t43) = false:=bne_eq_false_iff_eq.mpr c236
                  clear c236
                  obtain rfl:=Option.some.inj H
                  have hnb237:=NB28_1.1
                  have hnc237:=NB1_28.1
                  have hnb238:=NB28_2.1
                  have hnc238:=NB2_28.1
                  have hnb239:=NB28_15.1
                  have hnc239:=NB15_28.1
                  have hnb240:=NB28_19.1
                  have hnc240:=NB19_28.1
                  have hnb241:=NB28_23.1
                  have hnc241:=NB23_28.1
                  have hnb242:=NB28_56.1
                  have hnc242:=NB56_28.1
                  have hcz243_0 : wc.cell? ⟨gb28,0,none⟩ = some (.slice Ao67 t44.length co67):=(blk_cell BK28.1 0).trans rfl
                  have hfz243_0:=blk_frozen BK28.1 0
                  go_wp2_with (first | ((with_reducible refine gate_callee (f:=37) rfl ?_);refine goesL_ (some 123) rfl rfl Try.func37 (by kernel_rfl) rfl #[.agg #[.slice Ao67 t44.length co67],.int .i64 1] rfl lm_ ?_;(with_reducible refine (laws_heldHeap.calls kj174 _ _ t44 1 t58 _ ?side1 ?side2 A226.1).mono ?_);(case side1=>exact cc_ (R_reads' Z29.out).2.2);(case side2=>exact (R_reads' Z29.out).2.1);rintro e w244 ⟨rfl,hb⟩;refine ⟨_,rfl,?_⟩;replace Z16:=rb_ Z16 hb;replace Z20:=rb_ Z20 hb;replace Z24:=rb_ Z24 hb;replace Z29:=rb_ Z29 hb;replace Z57:=rb_ Z57 hb;replace BK1:=kb_ BK1 hb;replace BK2:=kb_ BK2 hb;replace BK15:=kb_ BK15 hb;replace BK19:=kb_ BK19 hb;replace BK23:=kb_ BK23 hb;replace BK28:=kb_ BK28 hb;replace BK56:=kb_ BK56 hb;replace HB:=a0_ (below_step hb_ hb);(try clear hb);(try clear hb2);(try clear hk);(try clear hi)))
                  go_ret
                  exact ⟨by first | rfl | (simp [errW_none,errW_some] <;> rfl) | (simp [*,errW_none,errW_some] <;> rfl),hb_⟩
                 ·rw [if_neg c236] at H
                  have c236b0 : (t58 == t43) = false:=beq_eq_false_iff_ne.mpr c236
                  have c236b1 : (t58 != t43) = true:=bne_iff_ne.mpr c236
                  obtain rfl:=Option.some.inj H
                  have hnb245:=NB28_1.1
                  have hnc245:=NB1_28.1
                  have hnb246:=NB28_2.1
                  have hnc246:=NB2_28.1
                  have hnb247:=NB28_15.1
                  have hnc247:=NB15_28.1
                  have hnb248:=NB28_19.1
                  have hnc248:=NB19_28.1
                  have hnb249:=NB28_23.1
                  have hnc249:=NB23_28.1
                  have hnb250:=NB28_56.1
                  have hnc250:=NB56_28.1
                  have hcz251_0 : wc.cell? ⟨gb28,0,none⟩ = some (.slice Ao67 t44.length co67):=(blk_cell BK28.1 0).trans rfl
                  have hfz251_0:=blk_frozen BK28.1 0
                  go_wp2_with (first | ((with_reducible refine gate_callee (f:=37) rfl ?_);refine goesL_ (some 123) rfl rfl Try.func37 (by kernel_rfl) rfl #[.agg #[.slice Ao67 t44.length co67],.int .i64 1] rfl lm_ ?_;(with_reducible refine (laws_heldHeap.calls kj174 _ _ t44 1 t58 _ ?side1 ?side2 A226.1).mono ?_);(case side1=>exact cc_ (R_reads' Z29.out).2.2);(case side2=>exact (R_reads' Z29.out).2.1);rintro e w252 ⟨rfl,hb⟩;refine ⟨_,rfl,?_⟩;replace Z16:=rb_ Z16 hb;replace Z20:=rb_ Z20 hb;replace Z24:=rb_ Z24 hb;replace Z29:=rb_ Z29 hb;replace Z57:=rb_ Z57 hb;replace BK1:=kb_ BK1 hb;replace BK2:=kb_ BK2 hb;replace BK15:=kb_ BK15 hb;replace BK19:=kb_ BK19 hb;replace BK23:=kb_ BK23 hb;replace BK28:=kb_ BK28 hb;replace BK56:=kb_ BK56 hb;replace HB:=a0_ (below_step hb_ hb);(try clear hb);(try clear hb2);(try clear hk);(try clear hi)))
                  go_ret
                  exact ⟨by first | rfl | (simp [errW_none,errW_some] <;> rfl) | (simp [*,errW_none,errW_some] <;> rfl),hb_⟩
            ·rw [if_neg c171] at H
             have c171b0 : (t45 == t43) = false:=beq_eq_false_iff_ne.mpr c171
             have c171b1 : (t45 != t43) = true:=bne_iff_ne.mpr c171
             obtain rfl:=Option.some.inj H
             have hnb253:=NB28_1.1
             have hnc253:=NB1_28.1
             have hnb254:=NB28_2.1
             have hnc254:=NB2_28.1
             have hnb255:=NB28_15.1
             have hnc255:=NB15_28.1
             have hnb256:=NB28_19.1
             have hnc256:=NB19_28.1
             have hnb257:=NB28_23.1
             have hnc257:=NB23_28.1
             have hcz258_0 : wc.cell? ⟨gb28,0,none⟩ = some (.slice Ao67 t24.length co67):=(blk_cell BK28.1 0).trans rfl
             have hfz258_0:=blk_frozen BK28.1 0
             go_wp2_with (first | ((with_reducible refine gate_callee (f:=30) rfl ?_);refine goesL_ (some 93) rfl rfl Try.func30 (by kernel_rfl) rfl #[.agg #[.slice Ao67 t24.length co67],.int .i64 1] rfl lm_ ?_;(with_reducible refine (laws_markHeap.calls kj108 (fun k_=>some k_ = (.slice Ao67 t24.length co67 : Value).ownBlock) (.slice Ao67 t24.length co67) t24 1 t43 t44 w _ ?side1 ?side2 A159.1).mono ?_);(case side1=>exact hb_);(case side2=>exact R_tight rfl Z29.out);rintro e w259 ⟨rfl,hy0,hb,hkp⟩;refine ⟨_,rfl,?_⟩;have n0_:=a0_ (R_mono (ok':=fun k_=>some k_ ≠ (.slice Ao58 t41.length co58 : Value).ownBlock ∧ some k_ ≠ (.slice Ao67 t24.length co67 : Value).ownBlock) (R_keptB (Z16.out) hkp (fun k_ hk_ hs_=>(hk_.2) hs_)) (fun k_ hk_=>⟨hk_.1.1,hk_.1.2⟩));have n1_:=a0_ (R_mono (ok':=fun k_=>True) (R_keptB ((R_apart' Z20.out (R_typed Z29.out) (by decide))) hkp (fun k_ hk_ hs_=>(hk_.2) hs_)) (fun k_ hk_=>trivial));have n2_:=a0_ (R_mono (ok':=fun k_=>some k_ ≠ (.slice Ao43 t11.length co43 : Value).ownBlock ∧ some k_ ≠ (.slice Ao67 t24.length co67 : Value).ownBlock) (R_keptB (Z24.out) hkp (fun k_ hk_ hs_=>(hk_.2) hs_)) (fun k_ hk_=>⟨hk_.1.1,hk_.1.2⟩));have n3_:=a0_ (R_reok rfl hy0 (fun k_ e_=>Z29.out.1 k_ e_));have n4_:=a0_ (blk_kept (bb_ BK1.1) hkp (fun hs_=>(fun e_=>(R_ne Z29.out BK1.1 (by decide)) e_) hs_));have n5_:=a0_ (blk_kept (bb_ BK2.1) hkp (fun hs_=>(fun e_=>(R_ne Z29.out BK2.1 (by decide)) e_) hs_));have n6_:=a0_ (blk_kept (bb_ BK15.1) hkp (fun hs_=>(fun e_=>(R_ne Z29.out BK15.1 (by decide)) e_) hs_));have n7_:=a0_ (blk_kept (bb_ BK19.1) hkp (fun hs_=>(fun e_=>(R_ne Z29.out BK19.1 (by decide)) e_) hs_));have n8_:=a0_ (blk_kept (bb_ BK23.1) hkp (fun hs_=>(fun e_=>(R_ne Z29.out BK23.1 (by decide)) e_) hs_));have n9_:=a0_ (blk_kept (bb_ BK28.1) hkp (fun hs_=>(fun e_=>(R_ne Z29.out BK28.1 (by decide)) e_) hs_));have n10_:=a0_ (hb);clear Z16 Z20;clear Z24 Z29;clear BK1 BK2;clear BK15 BK19;clear BK23 BK28 HB;have Z16:=n0_;have Z20:=n1_;have Z24:=n2_;have Z29:=n3_;have BK1:=n4_;have BK2:=n5_;have BK15:=n6_;have BK19:=n7_;have BK23:=n8_;have BK28:=n9_;have HB:=n10_;clear n0_ n1_ n2_ n3_ n4_ n5_ n6_ n7_ n8_ n9_ n10_;(try clear hb);(try clear hkp);(try clear hy0);have hcz260_0 : w259.cell? ⟨gb28,0,none⟩ = some (.slice Ao67 t24.length co67):=(blk_cell BK28.1 0).trans rfl;have hfz260_0:=blk_frozen BK28.1 0) | ((with_reducible refine gate_callee (f:=37) rfl ?_);refine goesL_ (some 96) rfl rfl Try.func37 (by kernel_rfl) rfl #[.agg #[.slice Ao67 t44.length co67],.int .i64 1] rfl (by (try simp only [List.map_toArray,List.map_cons,List.map_nil]);first | done | (rw [show t44.length = t24.length from (R_reads' Z29.out).1.symm] <;> rfl) | rfl | (simp only [List.length_drop,List.length_take];rfl)) ?_;(with_reducible refine (laws_heldHeap.calls kj108 _ _ t44 1 t45 _ ?side1 ?side2 A160.1).mono ?_);(case side1=>exact cc_ (R_reads' Z29.out).2.2);(case side2=>rw [show t44.length = t24.length from (R_reads' Z29.out).1.symm];exact (R_reads' Z29.out).2.1);rintro e w261 ⟨rfl,hb⟩;refine ⟨_,rfl,?_⟩;replace Z16:=rb_ Z16 hb;replace Z20:=rb_ Z20 hb;replace Z24:=rb_ Z24 hb;replace Z29:=rb_ Z29 hb;replace BK1:=kb_ BK1 hb;replace BK2:=kb_ BK2 hb;replace BK15:=kb_ BK15 hb;replace BK19:=kb_ BK19 hb;replace BK23:=kb_ BK23 hb;replace BK28:=kb_ BK28 hb;replace HB:=a0_ (below_step hb_ hb);(try clear hb);(try clear hb2);(try clear hk);(try clear hi)))
             go_ret
             exact ⟨by first | rfl | (simp [errW_none,errW_some] <;> rfl) | (simp [*,errW_none,errW_some] <;> rfl),hb_⟩
       ·replace c106:=Bool.eq_false_iff.mpr c106
        subst c106
        have H1 : (some false) = some r:=by rw [if_neg (show ¬ (false = true) by decide)] at H;exact H
        clear H
        have H:=H1
        clear H1
        obtain rfl:=Option.some.inj H
        try go_wp2
        have n0_:=a0_ (R_drew Z16.out)
        have n1_:=a0_ (R_drew Z20.out)
        have n2_:=a0_ (R_drew Z24.out)
        have n3_:=a0_ (R_drew Z29.out)
        have n4_:=a0_ (blk_drew BK1.1)
        have n5_:=a0_ (blk_drew BK2.1)
        have n6_:=a0_ (blk_drew BK15.1)
        have n7_:=a0_ (blk_drew BK19.1)
        have n8_:=a0_ (blk_drew BK23.1)
        have n9_:=a0_ (blk_drew BK28.1)
        have n10_:=a0_ (below_drew1 HB.1)
        clear Z16
        clear Z20
        clear Z24
        clear Z29
        clear BK1
        clear BK2
        clear BK15
        clear BK19
        clear BK23
        clear BK28
        clear HB
        have Z16:=n0_
        have Z20:=n1_
        have Z24:=n2_
        have Z29:=n3_
        have BK1:=n4_
        have BK2:=n5_
        have BK15:=n6_
        have BK19:=n7_
        have BK23:=n8_
        have BK28:=n9_
        have HB:=n10_
        clear n0_ n1_ n2_ n3_ n4_ n5_ n6_ n7_ n8_ n9_ n10_
        refine start_ (n:=5) (S:=fun w'=>w'.cell? ⟨gb19,0,none⟩ = some (.slice Ao49 t16.length co49) ∧ w'.cell? ⟨gb1,0,none⟩ = some (.slice A0_0 l0_0.length c0_0)) (ds:=[]) #[false,false,false,false,false] (by kernel_rfl) rfl rfl ⟨(blk_cell BK19.1 0).trans rfl,(blk_cell BK1.1 0).trans rfl⟩ (fun hHeld=>?_)
        generalize wc.drew = w262 at Z16 Z20 Z24 Z29 BK1 BK2 BK15 BK19 BK23 BK28 HB hHeld ⊢
        refine take_ (i:=0) (N:=some 62) (v:=?_) (a':=?_) #[true,false,false,false,false] rfl rfl (by kernel_rfl) (fun _ _ _ h=>h) (Or.inl ⟨by rfl,?_⟩) hHeld ?_ ?_
        rotate_left
        ·rintro w' ⟨s0,s1⟩
         go_simp
         with_reducible rfl
        rotate_left
        ·simp only [Act.put,s1_,s2_,s3_,i64_w,i32_w]
         rfl
        refine take_ (i:=1) (N:=some 63) (v:=?_) (a':=?_) #[true,true,false,false,false] rfl rfl (by kernel_rfl) (fun _ _ _ h=>h) (Or.inl ⟨by rfl,?_⟩) hHeld ?_ ?_
        rotate_left
        ·rintro w' ⟨s0,s1⟩
         go_simp
         with_reducible rfl
        rotate_left
        ·simp only [Act.put,s1_,s2_,s3_,i64_w,i32_w]
         rfl
        refine one_ (i:=2) (N:=some 64) #[true,true,true,false,false] rfl rfl (by kernel_rfl) (by decide) (fun K hK=>?_)
        refine goes_ Try.func17 (by kernel_rfl) rfl #[.agg #[.slice A0_0 l0_0.length c0_0]] (by rfl) rfl rfl lm_ ?_
        with_reducible refine (laws_toTree.calls kj26 _ _ l0_0 t30 _ ?side1 ?side2 A101.1).mono ?_
        (case side1=>exact cc_ (C_below HR0_0.1 HB.1))
        (case side2=>exact HC0_0.1)
        rintro e w263 ⟨v31,rfl,ho0,hb⟩
        refine ⟨_,rfl,?_⟩
        have n0_:=rb_ Z16 hb
        have n1_:=a0_ (R_elder' (rr_ Z20.out) (R_base ho0) hb)
        have n2_:=rb_ Z24 hb
        have n3_:=rb_ Z29 hb
        have n4_:=a0_ (R_lower (R_new' ho0 (R_lt (rr_ Z20.out))) (below_size hb_))
        have n5_:=kb_ BK1 hb
        have n6_:=kb_ BK2 hb
        have n7_:=kb_ BK15 hb
        have n8_:=kb_ BK19 hb
        have n9_:=kb_ BK23 hb
        have n10_:=kb_ BK28 hb
        have n11_:=a0_ (below_step hb_ hb)
        clear Z16
        clear Z20
        clear Z24
        clear Z29
        clear BK1
        clear BK2
        clear BK15
        clear BK19
        clear BK23
        clear BK28
        clear HB
        have Z16:=n0_
        have Z20:=n1_
        have Z24:=n2_
        have Z29:=n3_
        have HO32:=n4_
        have BK1:=n5_
        have BK2:=n6_
        have BK15:=n7_
        have BK19:=n8_
        have BK23:=n9_
        have BK28:=n10_
        have HB:=n11_
        clear n0_ n1_ n2_ n3_ n4_ n5_ n6_ n7_ n8_ n9_ n10_ n11_
        (try clear hb)
        (try clear hb2)
        (try clear hk)
        (try clear hi)
        (try clear ho0)
        obtain ⟨Ao264,co264,eo264⟩:=R_slice HO32.1
        (first | subst eo264 | (injection eo264 with f1_ f2_ f3_;have f4_:=f1_.symm;have f5_:=f3_.symm;clear f1_ f2_ f3_;subst f4_;subst f5_))
        refine hK.out _ _ ⟨(blk_cell BK19.1 0).trans rfl,(blk_cell BK1.1 0).trans rfl⟩ (fun hHeld=>?_)
        clear hK K
        refine norm_ (a':=?_) ?_ ?_
        rotate_left
        ·show Act.put _ (some 64) _ = _
         simp only [Act.put,s1_,s2_,s3_,i64_w,i32_w]
         rfl
        refine one_ (i:=3) (N:=some 65) #[true,true,true,true,false] rfl rfl (by kernel_rfl) (by decide) (fun K hK=>?_)
        refine goes_ Try.func20 (by kernel_rfl) rfl #[.agg #[.slice Ao49 t16.length co49],.agg #[.slice Ao264 t30.length co264]] (by rfl) rfl rfl lm_ ?_
        with_reducible refine (laws_eqTree.calls kj26 _ _ t16 _ _ t30 true _ ?side1 ?side2 ?side3 ?side4 A102.1).mono ?_
        (case side1=>exact cc_ (R_reads' Z20.out).2.2)
        (case side2=>exact (R_reads' Z20.out).2.1)
        (case side3=>exact cc_ (R_reads' HO32.1).2.2)
        (case side4=>exact (R_reads' HO32.1).2.1)
        rintro e w265 ⟨rfl,hb⟩
        refine ⟨_,rfl,?_⟩
        have n0_:=rb_ Z16 hb
        have n1_:=rb_ Z20 hb
        have n2_:=rb_ Z24 hb
        have n3_:=rb_ Z29 hb
        have n4_:=rb_ HO32 hb
        have n5_:=kb_ BK1 hb
        have n6_:=kb_ BK2 hb
        have n7_:=kb_ BK15 hb
        have n8_:=kb_ BK19 hb
        have n9_:=kb_ BK23 hb
        have n10_:=kb_ BK28 hb
        have n11_:=a0_ (below_step hb_ hb)
        clear Z16
        clear Z20
        clear Z24
        clear Z29
        clear HO32
        clear BK1
        clear BK2
        clear BK15
        clear BK19
        clear BK23
        clear BK28
        clear HB
        have Z16:=n0_
        have Z20:=n1_
        have Z24:=n2_
        have Z29:=n3_
        have HO32:=n4_
        have BK1:=n5_
        have BK2:=n6_
        have BK15:=n7_
        have BK19:=n8_
        have BK23:=n9_
        have BK28:=n10_
        have HB:=n11_
        clear n0_ n1_ n2_ n3_ n4_ n5_ n6_ n7_ n8_ n9_ n10_ n11_
        (try clear hb)
        (try clear hb2)
        (try clear hk)
        (try clear hi)
        refine hK.out _ _ ⟨(blk_cell BK19.1 0).trans rfl,(blk_cell BK1.1 0).trans rfl⟩ (fun hHeld=>?_)
        clear hK K
        refine norm_ (a':=?_) ?_ ?_
        rotate_left
        ·show Act.put _ (some 65) _ = _
         simp only [Act.put,s1_,s2_,s3_,i64_w,i32_w]
         rfl
        refine pure_ (i:=4) (N:=some 66) (v:=?_) (a':=?_) #[true,true,true,true,true] rfl rfl (by kernel_rfl) (fun _ _ _ h=>h) (Or.inl ⟨by rfl,?_⟩) ?_ ?_
        rotate_left
        ·intro w'
         go_simp
         with_reducible rfl
        rotate_left
        ·simp only [Act.put,s1_,s2_,s3_,i64_w,i32_w]
         rfl
        refine done_ (by kernel_rfl) ?_
        try go_wp2
        have n0_:=a0_ (R_drew Z16.out)
        have n1_:=a0_ (R_drew Z20.out)
        have n2_:=a0_ (R_drew Z24.out)
        have n3_:=a0_ (R_drew Z29.out)
        have n4_:=a0_ (R_drew HO32.1)
        have n5_:=a0_ (blk_drew BK1.1)
        have n6_:=a0_ (blk_drew BK2.1)
        have n7_:=a0_ (blk_drew BK15.1)
        have n8_:=a0_ (blk_drew BK19.1)
        have n9_:=a0_ (blk_drew BK23.1)
        have n10_:=a0_ (blk_drew BK28.1)
        have n11_:=a0_ (below_drew1 HB.1)
        clear Z16
        clear Z20
        clear Z24
        clear Z29
        clear HO32
        clear BK1
        clear BK2
        clear BK15
        clear BK19
        clear BK23
        clear BK28
        clear HB
        have Z16:=n0_
        have Z20:=n1_
        have Z24:=n2_
        have Z29:=n3_
        have HO32:=n4_
        have BK1:=n5_
        have BK2:=n6_
        have BK15:=n7_
        have BK19:=n8_
        have BK23:=n9_
        have BK28:=n10_
        have HB:=n11_
        clear n0_ n1_ n2_ n3_ n4_ n5_ n6_ n7_ n8_ n9_ n10_ n11_
        refine start_ (n:=5) (S:=fun w'=>w'.cell? ⟨gb23,0,none⟩ = some (.slice Ao58 t20.length co58) ∧ w'.cell? ⟨gb2,0,none⟩ = some (.slice A1_0 l1_0.length c1_0)) (ds:=[]) #[false,false,false,false,false] (by kernel_rfl) rfl rfl ⟨(blk_cell BK23.1 0).trans rfl,(blk_cell BK2.1 0).trans rfl⟩ (fun hHeld=>?_)
        generalize w265.drew = w266 at Z16 Z20 Z24 Z29 HO32 BK1 BK2 BK15 BK19 BK23 BK28 HB hHeld ⊢
        refine take_ (i:=0) (N:=some 67) (v:=?_) (a':=?_) #[true,false,false,false,false] rfl rfl (by kernel_rfl) (fun _ _ _ h=>h) (Or.inl ⟨by rfl,?_⟩) hHeld ?_ ?_
        rotate_left
        ·rintro w' ⟨s0,s1⟩
         go_simp
         with_reducible rfl
        rotate_left
        ·simp only [Act.put,s1_,s2_,s3_,i64_w,i32_w]
         rfl
        refine take_ (i:=1) (N:=some 68) (v:=?_) (a':=?_) #[true,true,false,false,false] rfl rfl (by kernel_rfl) (fun _ _ _ h=>h) (Or.inl ⟨by rfl,?_⟩) hHeld ?_ ?_
        rotate_left
        ·rintro w' ⟨s0,s1⟩
         go_simp
         with_reducible rfl
        rotate_left
        ·simp only [Act.put,s1_,s2_,s3_,i64_w,i32_w]
         rfl
        refine one_ (i:=2) (N:=some 69) #[true,true,true,false,false] rfl rfl (by kernel_rfl) (by decide) (fun K hK=>?_)
        refine goes_ Try.func18 (by kernel_rfl) rfl #[.agg #[.slice A1_0 l1_0.length c1_0]] (by rfl) rfl rfl lm_ ?_
        with_reducible refine (laws_toHeap.calls kj26 _ _ l1_0 t34 _ ?side1 ?side2 A104.1).mono ?_
        (case side1=>exact cc_ (C_below HR1_0.1 HB.1))
        (case side2=>exact HC1_0.1)
        rintro e w267 ⟨v35,rfl,ho0,hb⟩
        refine ⟨_,rfl,?_⟩
        have n0_:=a0_ (R_elder' (rr_ Z16.out) (R_base ho0) hb)
        have n1_:=rb_ Z20 hb
        have n2_:=a0_ (R_elder' (rr_ Z24.out) (R_base ho0) hb)
        have n3_:=a0_ (R_elder' (rr_ Z29.out) (R_base ho0) hb)
        have n4_:=rb_ HO32 hb
        have n5_:=a0_ (R_lower (R_new' (R_new' (R_new' ho0 (R_lt (rr_ Z16.out))) (R_lt (rr_ Z24.out))) (R_lt (rr_ Z29.out))) (below_size hb_))
        have n6_:=kb_ BK1 hb
        have n7_:=kb_ BK2 hb
        have n8_:=kb_ BK15 hb
        have n9_:=kb_ BK19 hb
        have n10_:=kb_ BK23 hb
        have n11_:=kb_ BK28 hb
        have n12_:=a0_ (below_step hb_ hb)
        clear Z16
        clear Z20
        clear Z24
        clear Z29
        clear HO32
        clear BK1
        clear BK2
        clear BK15
        clear BK19
        clear BK23
        clear BK28
        clear HB
        have Z16:=n0_
        have Z20:=n1_
        have Z24:=n2_
        have Z29:=n3_
        have HO32:=n4_
        have HO36:=n5_
        have BK1:=n6_
        have BK2:=n7_
        have BK15:=n8_
        have BK19:=n9_
        have BK23:=n10_
        have BK28:=n11_
        have HB:=n12_
        clear n0_ n1_ n2_ n3_ n4_ n5_ n6_ n7_ n8_ n9_ n10_ n11_ n12_
        (try clear hb)
        (try clear hb2)
        (try clear hk)
        (try clear hi)
        (try clear ho0)
        obtain ⟨Ao268,co268,eo268⟩:=R_slice HO36.1
        (first | subst eo268 | (injection eo268 with f1_ f2_ f3_;have f4_:=f1_.symm;have f5_:=f3_.symm;clear f1_ f2_ f3_;subst f4_;subst f5_))
        refine hK.out _ _ ⟨(blk_cell BK23.1 0).trans rfl,(blk_cell BK2.1 0).trans rfl⟩ (fun hHeld=>?_)
        clear hK K
        refine norm_ (a':=?_) ?_ ?_
        rotate_left
        ·show Act.put _ (some 69) _ = _
         simp only [Act.put,s1_,s2_,s3_,i64_w,i32_w]
         rfl
        refine one_ (i:=3) (N:=some 70) #[true,true,true,true,false] rfl rfl (by kernel_rfl) (by decide) (fun K hK=>?_)
        refine goes_ Try.func21 (by kernel_rfl) rfl #[.agg #[.slice Ao58 t20.length co58],.agg #[.slice Ao268 t34.length co268]] (by rfl) rfl rfl lm_ ?_
        with_reducible refine (laws_eqHeap.calls kj26 _ _ t20 _ _ t34 false _ ?side1 ?side2 ?side3 ?side4 A105.1).mono ?_
        (case side1=>exact cc_ (R_reads' Z24.out).2.2)
        (case side2=>exact (R_reads' Z24.out).2.1)
        (case side3=>exact cc_ (R_reads' HO36.1).2.2)
        (case side4=>exact (R_reads' HO36.1).2.1)
        rintro e w269 ⟨rfl,hb⟩
        refine ⟨_,rfl,?_⟩
        have n0_:=rb_ Z16 hb
        have n1_:=rb_ Z20 hb
        have n2_:=rb_ Z24 hb
        have n3_:=rb_ Z29 hb
        have n4_:=rb_ HO32 hb
        have n5_:=rb_ HO36 hb
        have n6_:=kb_ BK1 hb
        have n7_:=kb_ BK2 hb
        have n8_:=kb_ BK15 hb
        have n9_:=kb_ BK19 hb
        have n10_:=kb_ BK23 hb
        have n11_:=kb_ BK28 hb
        have n12_:=a0_ (below_step hb_ hb)
        clear Z16
        clear Z20
        clear Z24
        clear Z29
        clear HO32
        clear HO36
        clear BK1
        clear BK2
        clear BK15
        clear BK19
        clear BK23
        clear BK28
        clear HB
        have Z16:=n0_
        have Z20:=n1_
        have Z24:=n2_
        have Z29:=n3_
        have HO32:=n4_
        have HO36:=n5_
        have BK1:=n6_
        have BK2:=n7_
        have BK15:=n8_
        have BK19:=n9_
        have BK23:=n10_
        have BK28:=n11_
        have HB:=n12_
        clear n0_ n1_ n2_ n3_ n4_ n5_ n6_ n7_ n8_ n9_ n10_ n11_ n12_
        (try clear hb)
        (try clear hb2)
        (try clear hk)
        (try clear hi)
        refine hK.out _ _ ⟨(blk_cell BK23.1 0).trans rfl,(blk_cell BK2.1 0).trans rfl⟩ (fun hHeld=>?_)
        clear hK K
        refine norm_ (a':=?_) ?_ ?_
        rotate_left
        ·show Act.put _ (some 70) _ = _
         simp only [Act.put,s1_,s2_,s3_,i64_w,i32_w]
         rfl
        refine pure_ (i:=4) (N:=some 71) (v:=?_) (a':=?_) #[true,true,true,true,true] rfl rfl (by kernel_rfl) (fun _ _ _ h=>h) (Or.inl ⟨by rfl,?_⟩) ?_ ?_
        rotate_left
        ·intro w'
         go_simp
         with_reducible rfl
        rotate_left
        ·simp only [Act.put,s1_,s2_,s3_,i64_w,i32_w]
         rfl
        refine done_ (by kernel_rfl) ?_
        try go_wp2
        go_ret
        exact ⟨by first | rfl | (simp [errW_none,errW_some] <;> rfl) | (simp [*,errW_none,errW_some] <;> rfl),hb_⟩
      ·replace c103:=Bool.eq_false_iff.mpr c103
       subst c103
       have H1 : (some false) = some r:=by rw [if_neg (show ¬ (false = true) by decide)] at H;exact H
       clear H
       have H:=H1
       clear H1
       obtain rfl:=Option.some.inj H
       try go_wp2
       have n0_:=a0_ (R_drew Z16.out)
       have n1_:=a0_ (R_drew Z20.out)
       have n2_:=a0_ (R_drew Z24.out)
       have n3_:=a0_ (R_drew Z29.out)
       have n4_:=a0_ (blk_drew BK1.1)
       have n5_:=a0_ (blk_drew BK2.1)
       have n6_:=a0_ (blk_drew BK15.1)
       have n7_:=a0_ (blk_drew BK19.1)
       have n8_:=a0_ (blk_drew BK23.1)
       have n9_:=a0_ (blk_drew BK28.1)
       have n10_:=a0_ (below_drew1 HB.1)
       clear Z16
       clear Z20
       clear Z24
       clear Z29
       clear BK1
       clear BK2
       clear BK15
       clear BK19
       clear BK23
       clear BK28
       clear HB
       have Z16:=n0_
       have Z20:=n1_
       have Z24:=n2_
       have Z29:=n3_
       have BK1:=n4_
       have BK2:=n5_
       have BK15:=n6_
       have BK19:=n7_
       have BK23:=n8_
       have BK28:=n9_
       have HB:=n10_
       clear n0_ n1_ n2_ n3_ n4_ n5_ n6_ n7_ n8_ n9_ n10_
       refine start_ (n:=5) (S:=fun w'=>w'.cell? ⟨gb19,0,none⟩ = some (.slice Ao49 t16.length co49) ∧ w'.cell? ⟨gb1,0,none⟩ = some (.slice A0_0 l0_0.length c0_0)) (ds:=[]) #[false,false,false,false,false] (by kernel_rfl) rfl rfl ⟨(blk_cell BK19.1 0).trans rfl,(blk_cell BK1.1 0).trans rfl⟩ (fun hHeld=>?_)
       generalize wc.drew = w270 at Z16 Z20 Z24 Z29 BK1 BK2 BK15 BK19 BK23 BK28 HB hHeld ⊢
       refine take_ (i:=0) (N:=some 62) (v:=?_) (a':=?_) #[true,false,false,false,false] rfl rfl (by kernel_rfl) (fun _ _ _ h=>h) (Or.inl ⟨by rfl,?_⟩) hHeld ?_ ?_
       rotate_left
       ·rintro w' ⟨s0,s1⟩
        go_simp
        with_reducible rfl
       rotate_left
       ·simp only [Act.put,s1_,s2_,s3_,i64_w,i32_w]
        rfl
       refine take_ (i:=1) (N:=some 63) (v:=?_) (a':=?_) #[true,true,false,false,false] rfl rfl (by kernel_rfl) (fun _ _ _ h=>h) (Or.inl ⟨by rfl,?_⟩) hHeld ?_ ?_
       rotate_left
       ·rintro w' ⟨s0,s1⟩
        go_simp
        with_reducible rfl
       rotate_left
       ·simp only [Act.put,s1_,s2_,s3_,i64_w,i32_w]
        rfl
       refine one_ (i:=2) (N:=some 64) #[true,true,true,false,false] rfl rfl (by kernel_rfl) (by decide) (fun K hK=>?_)
       refine goes_ Try.func17 (by kernel_rfl) rfl #[.agg #[.slice A0_0 l0_0.length c0_0]] (by rfl) rfl rfl lm_ ?_
       with_reducible refine (laws_toTree.calls kj26 _ _ l0_0 t30 _ ?side1 ?side2 A101.1).mono ?_
       (case side1=>exact cc_ (C_below HR0_0.1 HB.1))
       (case side2=>exact HC0_0.1)
       rintro e w271 ⟨v31,rfl,ho0,hb⟩
       refine ⟨_,rfl,?_⟩
       have n0_:=rb_ Z16 hb
       have n1_:=a0_ (R_elder' (rr_ Z20.out) (R_base ho0) hb)
       have n2_:=rb_ Z24 hb
       have n3_:=rb_ Z29 hb
       have n4_:=a0_ (R_lower (R_new' ho0 (R_lt (rr_ Z20.out))) (below_size hb_))
       have n5_:=kb_ BK1 hb
       have n6_:=kb_ BK2 hb
       have n7_:=kb_ BK15 hb
       have n8_:=kb_ BK19 hb
       have n9_:=kb_ BK23 hb
       have n10_:=kb_ BK28 hb
       have n11_:=a0_ (below_step hb_ hb)
       clear Z16
       clear Z20
       clear Z24
       clear Z29
       clear BK1
       clear BK2
       clear BK15
       clear BK19
       clear BK23
       clear BK28
       clear HB
       have Z16:=n0_
       have Z20:=n1_
       have Z24:=n2_
       have Z29:=n3_
       have HO32:=n4_
       have BK1:=n5_
       have BK2:=n6_
       have BK15:=n7_
       have BK19:=n8_
       have BK23:=n9_
       have BK28:=n10_
       have HB:=n11_
       clear n0_ n1_ n2_ n3_ n4_ n5_ n6_ n7_ n8_ n9_ n10_ n11_
       (try clear hb)
       (try clear hb2)
       (try clear hk)
       (try clear hi)
       (try clear ho0)
       obtain ⟨Ao272,co272,eo272⟩:=R_slice HO32.1
       (first | subst eo272 | (injection eo272 with f1_ f2_ f3_;have f4_:=f1_.symm;have f5_:=f3_.symm;clear f1_ f2_ f3_;subst f4_;subst f5_))
       refine hK.out _ _ ⟨(blk_cell BK19.1 0).trans rfl,(blk_cell BK1.1 0).trans rfl⟩ (fun hHeld=>?_)
       clear hK K
       refine norm_ (a':=?_) ?_ ?_
       rotate_left
       ·show Act.put _ (some 64) _ = _
        simp only [Act.put,s1_,s2_,s3_,i64_w,i32_w]
        rfl
       refine one_ (i:=3) (N:=some 65) #[true,true,true,true,false] rfl rfl (by kernel_rfl) (by decide) (fun K hK=>?_)
       refine goes_ Try.func20 (by kernel_rfl) rfl #[.agg #[.slice Ao49 t16.length co49],.agg #[.slice Ao272 t30.length co272]] (by rfl) rfl rfl lm_ ?_
       with_reducible refine (laws_eqTree.calls kj26 _ _ t16 _ _ t30 false _ ?side1 ?side2 ?side3 ?side4 A102.1).mono ?_
       (case side1=>exact cc_ (R_reads' Z20.out).2.2)
       (case side2=>exact (R_reads' Z20.out).2.1)
       (case side3=>exact cc_ (R_reads' HO32.1).2.2)
       (case side4=>exact (R_reads' HO32.1).2.1)
       rintro e w273 ⟨rfl,hb⟩
       refine ⟨_,rfl,?_⟩
       have n0_:=rb_ Z16 hb
       have n1_:=rb_ Z20 hb
       have n2_:=rb_ Z24 hb
       have n3_:=rb_ Z29 hb
       have n4_:=rb_ HO32 hb
       have n5_:=kb_ BK1 hb
       have n6_:=kb_ BK2 hb
       have n7_:=kb_ BK15 hb
       have n8_:=kb_ BK19 hb
       have n9_:=kb_ BK23 hb
       have n10_:=kb_ BK28 hb
       have n11_:=a0_ (below_step hb_ hb)
       clear Z16
       clear Z20
       clear Z24
       clear Z29
       clear HO32
       clear BK1
       clear BK2
       clear BK15
       clear BK19
       clear BK23
       clear BK28
       clear HB
       have Z16:=n0_
       have Z20:=n1_
       have Z24:=n2_
       have Z29:=n3_
       have HO32:=n4_
       have BK1:=n5_
       have BK2:=n6_
       have BK15:=n7_
       have BK19:=n8_
       have BK23:=n9_
       have BK28:=n10_
       have HB:=n11_
       clear n0_ n1_ n2_ n3_ n4_ n5_ n6_ n7_ n8_ n9_ n10_ n11_
       (try clear hb)
       (try clear hb2)
       (try clear hk)
       (try clear hi)
       refine hK.out _ _ ⟨(blk_cell BK19.1 0).trans rfl,(blk_cell BK1.1 0).trans rfl⟩ (fun hHeld=>?_)
       clear hK K
       refine norm_ (a':=?_) ?_ ?_
       rotate_left
       ·show Act.put _ (some 65) _ = _
        simp only [Act.put,s1_,s2_,s3_,i64_w,i32_w]
        rfl
       refine pure_ (i:=4) (N:=some 66) (v:=?_) (a':=?_) #[true,true,true,true,true] rfl rfl (by kernel_rfl) (fun _ _ _ h=>h) (Or.inl ⟨by rfl,?_⟩) ?_ ?_
       rotate_left
       ·intro w'
        go_simp
        with_reducible rfl
       rotate_left
       ·simp only [Act.put,s1_,s2_,s3_,i64_w,i32_w]
        rfl
       refine done_ (by kernel_rfl) ?_
       try go_wp2
       go_ret
       exact ⟨by first | rfl | (simp [errW_none,errW_some] <;> rfl) | (simp [*,errW_none,errW_some] <;> rfl),hb_⟩
end Go.Proofs.Ytfhcfhffmblacaa.P
namespace Go.Proofs.Ytfhcfhffmblacaa.Pure
open Go.RowKit Go.Proofs.Ytfhcfhffmblacaa.P
set_option linter.unusedVariables false
theorem FnExactRaiseWhile (l0_0 : List S103) (l1_0 : List S109) (a2 : Int) (a3 : Int) (G0_0 : (l0_0.length ≤ maxLen ∧ ∀ x ∈ l0_0,(x.f0.size ≤ maxLen ∧ (Lit.int .i64 x.f1).wf = true))) (G1_0 : (l1_0.length ≤ maxLen ∧ ∀ x ∈ l1_0,((Lit.int .i64 x.f0).wf = true ∧ (Lit.int .i64 x.f1).wf = true ∧ (Lit.int .i64 x.f2).wf = true ∧ (Lit.int .i64 x.f3).wf = true ∧ True))) (w2 : (Lit.int .i64 a2).wf = true) (w3 : (Lit.int .i64 a3).wf = true) : ∃ k,laws_FnExactRaiseWhile.f k l0_0 l1_0 a2 a3 = some true:=by
 have hmax : maxLen = 9223372036854775807:=by decide
 rw [hmax] at G0_0 G1_0
 refine Ev.out (F:=fun k=>laws_FnExactRaiseWhile.f k l0_0 l1_0 a2 a3) ?_
 unfold laws_FnExactRaiseWhile.f
 obtain ⟨v0,hv0,hg0⟩:=laws_szTree_ev l0_0 1048576 (by omega) (by omega) G0_0.1 (fun x hx=>(G0_0.2 x hx).1)
 refine Ev.bind hv0 ?_
 by_cases hn0 : v0 < 0
 ·exact Ev.pos hn0 (Ev.const rfl)
 refine Ev.neg hn0 ?_
 obtain ⟨hva0,hl0,hs⟩:=hg0 (by omega)
 obtain ⟨v1,hv1,hg1⟩:=laws_szHeap_ev l1_0 v0 (by omega) (by omega) G1_0.1
 refine Ev.bind hv1 ?_
 by_cases hn1 : v1 < 0
 ·exact Ev.pos hn1 (Ev.const rfl)
 refine Ev.neg hn1 ?_
 obtain ⟨hva1,hl1⟩:=hg1 (by omega)
 have hT0:=laws_toTree_ev l0_0 (by omega)
 have hm0 : (l0_0.map toC).length ≤ 1048576:=by rw [List.length_map];omega
 have hT1:=laws_toHeap_ev l1_0 (by omega)
 have hm1 : (l1_0.map toFault).length ≤ 1048576:=by rw [List.length_map];omega
 have hsm:=smT_of hs
 have hS : Ev (fun k=>spec_RaiseWhile.f k (l0_0.map toC) (l1_0.map toFault) a2 a3) (raiP (l0_0.map toC) (l1_0.map toFault) a2 a3):=spec_RaiseWhile_ev (l0_0.map toC) (l1_0.map toFault) a2 a3 hsm (by omega) (by omega)
 have hG : Ev (fun k=>impl_RaiseWhile.f (l0_0.map toC) (l1_0.map toFault) a2 a3) (raiP (l0_0.map toC) (l1_0.map toFault) a2 a3):=Ev.const (impl_RaiseWhile_ev (l0_0.map toC) (l1_0.map toFault) a2 a3 hsm (by omega))
 have hrl:=raiP_len (l0_0.map toC) (l1_0.map toFault) a2 a3
 generalize raiP (l0_0.map toC) (l1_0.map toFault) a2 a3 = r at hS hG hrl
 obtain ⟨r0,r1⟩:=r
 simp only at hrl
 have hEr0:=laws_eqHeap_ev r0 (by omega)
 obtain ⟨l',hM0⟩:=laws_markTree_ev (l0_0.map toC) (1) (by omega) (by omega)
 have hM1:=laws_markHeap_ev (l1_0.map toFault) (1 + 2 * (l0_0.map toC).length) (by omega) (by omega)
 have hm9r0:=laws_markHeap_ev r0 (1) (by omega) (by omega)
 have hhr0:=laws_heldHeap_ev (1) r0.length (by omega) (by omega)
 refine Ev.bind hT0 (Ev.bind hT1 (Ev.bind hS (Ev.bind hT0 (Ev.bind hT1 (Ev.bind hG (Ev.bind hEr0 (Ev.pos rfl ?_)))))))
 refine Ev.succ ?_
 simp only [laws_FnExactRaiseWhile.j0]
 refine Ev.neg (by simp) (Ev.bind hT0 (Ev.bind (laws_eqTree_ev _ (by omega)) (Ev.pos rfl (Ev.bind hT1 (Ev.bind (laws_eqHeap_ev _ (by omega)) (Ev.pos rfl (Ev.bind hM0 (Ev.bind hM1 (Ev.neg (by show ¬ (_ < (0 : Int));omega) (Ev.bind hEr0 (Ev.pos rfl ?_)))))))))))
 refine Ev.succ ?_
 simp only [laws_FnExactRaiseWhile.j1]
 refine Ev.neg (by simp) (Ev.bind hm9r0 (Ev.bind hhr0 (Ev.neg (by omega) (Ev.pos rfl (Ev.bind hT0 (Ev.bind hT1 (Ev.bind hG (Ev.bind hEr0 (Ev.pos rfl ?_)))))))))
 refine Ev.succ ?_
 simp only [laws_FnExactRaiseWhile.j2]
 exact Ev.neg (by simp) (Ev.bind hhr0 (Ev.neg (by omega) (Ev.pos rfl (Ev.const rfl))))
end Go.Proofs.Ytfhcfhffmblacaa.Pure
