/- Texts under the proof of FnExactPushExit: helper words, the functions' contracts and the plain laws. No condition. -/
import Derived.Test.YtjcodcimodnbjaaQFnExactPushExita
import Derived.Test.YtjcodcimodnbjaaQFnExactPushExitb
namespace Go.Proofs.Ytjcodcimodnbjaa.P
open Go.RowKit Go.Proofs.YtjcodcimodnbjaaW.PrintWords Go.Proofs.YtjcodcimodnbjaaW.PrintLast Go.Proofs.YtjcodcimodnbjaaW.PrintMore
attribute [local go_sem] max2_int min2_int max_two min_two max_three min_three max_four min_four
set_option linter.unusedVariables false
set_option linter.unusedSimpArgs false
mutual
def laws_FnExactPushExit.j0 : Nat → List (S27) → List (S38) → Bool → List (S38) → List (S38) → Bool → Bool → List (S73) → Int → Int → Int → List (S76) → Option (Bool)
 | 0,_,_,_,_,_,_,_,_,_,_,_,_=>none
 | k + 1,x1,x8,x9,x11,x12,x13,x59,x2000,x3000,x3001,x3002,x22000=>if x59 = true then (some false) else ((laws_toTree.f k x2000).bind fun t33=>((laws_eqTree.f k x22000 t33).bind fun t36=>(if t36 = true then ((laws_toExitS.f k x1).bind fun t37=>((laws_eqExitS.f k x11 t37).bind fun t40=>(if t40 = true then ((laws_markTree.f k x22000 1).bind fun bt41=>((laws_markExitS.f k x11 bt41.1).bind fun bt43=>(if bt43.1 < 0 then (laws_FnExactPushExit.j1 k x1 x8 x9 x12 true x2000 x3000 x3001 x3002) else ((laws_eqExitS.f k x12 x8).bind fun t45=>(if t45 = true then (laws_FnExactPushExit.j1 k x1 x8 x9 x12 (x13 != x9) x2000 x3000 x3001 x3002) else (laws_FnExactPushExit.j1 k x1 x8 x9 x12 true x2000 x3000 x3001 x3002)))))) else (some false)))) else (some false))))
def laws_FnExactPushExit.j1 : Nat → List (S27) → List (S38) → Bool → List (S38) → Bool → List (S73) → Int → Int → Int → Option (Bool)
 | 0,_,_,_,_,_,_,_,_,_=>none
 | k + 1,x1,x8,x9,x12,x88,x2000,x3000,x3001,x3002=>if x88 = true then (some false) else ((laws_markExitS.f k x12 1).bind fun bt46=>((laws_heldExitS.f k bt46.2 1).bind fun t48=>(if t48 < 0 then (some false) else (if t48 = bt46.1 then ((laws_toTree.f k x2000).bind fun t49=>((laws_toExitS.f k x1).bind fun t52=>((laws_toExit.f x3000 x3001 x3002).bind fun bt55=>((impl_PushExit.f t49 t52 bt55.1 bt55.2.1 bt55.2.2).bind fun bt58=>((laws_eqExitS.f k bt58.1 x8).bind fun t62=>(if t62 = true then (laws_FnExactPushExit.j2 k bt46.2 bt46.1 (bt58.2 != x9)) else (laws_FnExactPushExit.j2 k bt46.2 bt46.1 true))))))) else (some false)))))
def laws_FnExactPushExit.j2 : Nat → List (S38) → Int → Bool → Option (Bool)
 | 0,_,_,_=>none
 | k + 1,x12,x15,x118=>if x118 = true then (some false) else ((laws_heldExitS.f k x12 1).bind fun t63=>(if t63 < 0 then (some false) else (if t63 = x15 then (some true) else (some false))))
end
def laws_FnExactPushExit.f (k : Nat) (l0_0 : List (S73)) (l1 : List (S27)) (a2_0 : Int) (a2_1 : Int) (a2_2 : Int) : Option (Bool):=(laws_szTree.f k l0_0 1048576).bind fun t3=>(if t3 < 0 then (some true) else ((laws_szExitS.f l1 t3).bind fun t4=>(if t4 < 0 then (some true) else ((laws_toTree.f k l0_0).bind fun t5=>((laws_toExitS.f k l1).bind fun t8=>((laws_toExit.f a2_0 a2_1 a2_2).bind fun bt11=>((spec_PushExit.f k t5 t8 bt11.1 bt11.2.1 bt11.2.2).bind fun bt14=>((laws_toTree.f k l0_0).bind fun t18=>((laws_toExitS.f k l1).bind fun t22=>((laws_toExit.f a2_0 a2_1 a2_2).bind fun bt25=>((impl_PushExit.f t18 t22 bt25.1 bt25.2.1 bt25.2.2).bind fun bt28=>((laws_eqExitS.f k bt28.1 bt14.1).bind fun t32=>(if t32 = true then (laws_FnExactPushExit.j0 k l1 bt14.1 bt14.2 t22 bt28.1 bt28.2 (bt28.2 != bt14.2) l0_0 a2_0 a2_1 a2_2 t18) else (laws_FnExactPushExit.j0 k l1 bt14.1 bt14.2 t22 bt28.1 bt28.2 true l0_0 a2_0 a2_1 a2_2 t18))))))))))))))
theorem laws_FnExactPushExit.mono_l : ∀ k,(∀ y0 y1 y2 y3 y4 y5 y6 y7 y8 y9 y10 y11,LeO (laws_FnExactPushExit.j0 k y0 y1 y2 y3 y4 y5 y6 y7 y8 y9 y10 y11) (laws_FnExactPushExit.j0 (k + 1) y0 y1 y2 y3 y4 y5 y6 y7 y8 y9 y10 y11)) ∧ (∀ y0 y1 y2 y3 y4 y5 y6 y7 y8,LeO (laws_FnExactPushExit.j1 k y0 y1 y2 y3 y4 y5 y6 y7 y8) (laws_FnExactPushExit.j1 (k + 1) y0 y1 y2 y3 y4 y5 y6 y7 y8)) ∧ (∀ y0 y1 y2,LeO (laws_FnExactPushExit.j2 k y0 y1 y2) (laws_FnExactPushExit.j2 (k + 1) y0 y1 y2))
 | 0=>⟨fun _ _ _ _ _ _ _ _ _ _ _ _ r h=>by simp [laws_FnExactPushExit.j0] at h,fun _ _ _ _ _ _ _ _ _ r h=>by simp [laws_FnExactPushExit.j1] at h,fun _ _ _ r h=>by simp [laws_FnExactPushExit.j2] at h⟩
 | k + 1=>by
  obtain ⟨ih0,ih1,ih2⟩:=laws_FnExactPushExit.mono_l k
  refine ⟨?_,?_,?_⟩
  ·intro y0 y1 y2 y3 y4 y5 y6 y7 y8 y9 y10 y11
   unfold laws_FnExactPushExit.j0
   repeat' first
   | (with_reducible exact ih0 _ _ _ _ _ _ _ _ _ _ _ _)
   | (with_reducible exact ih1 _ _ _ _ _ _ _ _ _)
   | (with_reducible exact ih2 _ _ _)
   | (with_reducible exact laws_eqExitS.mono _ _ _)
   | (with_reducible exact laws_eqTree.mono _ _ _)
   | (with_reducible exact laws_heldExitS.mono _ _ _)
   | (with_reducible exact laws_markExitS.mono _ _ _)
   | (with_reducible exact laws_markTree.mono _ _ _)
   | (with_reducible exact laws_szTree.mono _ _ _)
   | (with_reducible exact laws_toExitS.mono _ _)
   | (with_reducible exact laws_toTree.mono _ _)
   | (with_reducible exact spec_PushExit.mono _ _ _ _ _ _)
   | (with_reducible exact LeO.refl _)
   | (with_reducible exact LeO.none _)
   | (with_reducible refine LeO.ite ?_ ?_)
   | (with_reducible refine LeO.bind ?_ (fun _=>?_))
   | exact ih0 _ _ _ _ _ _ _ _ _ _ _ _
   | exact ih1 _ _ _ _ _ _ _ _ _
   | exact ih2 _ _ _
   | exact laws_eqExitS.mono _ _ _
   | exact laws_eqTree.mono _ _ _
   | exact laws_heldExitS.mono _ _ _
   | exact laws_markExitS.mono _ _ _
   | exact laws_markTree.mono _ _ _
   | exact laws_szTree.mono _ _ _
   | exact laws_toExitS.mono _ _
   | exact laws_toTree.mono _ _
   | exact spec_PushExit.mono _ _ _ _ _ _
   | exact LeO.none _
   | refine LeO.ite ?_ ?_
   | refine LeO.bind ?_ (fun _=>?_)
  ·intro y0 y1 y2 y3 y4 y5 y6 y7 y8
   unfold laws_FnExactPushExit.j1
   repeat' first
   | (with_reducible exact ih0 _ _ _ _ _ _ _ _ _ _ _ _)
   | (with_reducible exact ih1 _ _ _ _ _ _ _ _ _)
   | (with_reducible exact ih2 _ _ _)
   | (with_reducible exact laws_eqExitS.mono _ _ _)
   | (with_reducible exact laws_eqTree.mono _ _ _)
   | (with_reducible exact laws_heldExitS.mono _ _ _)
   | (with_reducible exact laws_markExitS.mono _ _ _)
   | (with_reducible exact laws_markTree.mono _ _ _)
   | (with_reducible exact laws_szTree.mono _ _ _)
   | (with_reducible exact laws_toExitS.mono _ _)
   | (with_reducible exact laws_toTree.mono _ _)
   | (with_reducible exact spec_PushExit.mono _ _ _ _ _ _)
   | (with_reducible exact LeO.refl _)
   | (with_reducible exact LeO.none _)
   | (with_reducible refine LeO.ite ?_ ?_)
   | (with_reducible refine LeO.bind ?_ (fun _=>?_))
   | exact ih0 _ _ _ _ _ _ _ _ _ _ _ _
   | exact ih1 _ _ _ _ _ _ _ _ _
   | exact ih2 _ _ _
   | exact laws_eqExitS.mono _ _ _
   | exact laws_eqTree.mono _ _ _
   | exact laws_heldExitS.mono _ _ _
   | exact laws_markExitS.mono _ _ _
   | exact laws_markTree.mono _ _ _
   | exact laws_szTree.mono _ _ _
   | exact laws_toExitS.mono _ _
   | exact laws_toTree.mono _ _
   | exact spec_PushExit.mono _ _ _ _ _ _
   | exact LeO.none _
   | refine LeO.ite ?_ ?_
   | refine LeO.bind ?_ (fun _=>?_)
  ·intro y0 y1 y2
   unfold laws_FnExactPushExit.j2
   repeat' first
   | (with_reducible exact ih0 _ _ _ _ _ _ _ _ _ _ _ _)
   | (with_reducible exact ih1 _ _ _ _ _ _ _ _ _)
   | (with_reducible exact ih2 _ _ _)
   | (with_reducible exact laws_eqExitS.mono _ _ _)
   | (with_reducible exact laws_eqTree.mono _ _ _)
   | (with_reducible exact laws_heldExitS.mono _ _ _)
   | (with_reducible exact laws_markExitS.mono _ _ _)
   | (with_reducible exact laws_markTree.mono _ _ _)
   | (with_reducible exact laws_szTree.mono _ _ _)
   | (with_reducible exact laws_toExitS.mono _ _)
   | (with_reducible exact laws_toTree.mono _ _)
   | (with_reducible exact spec_PushExit.mono _ _ _ _ _ _)
   | (with_reducible exact LeO.refl _)
   | (with_reducible exact LeO.none _)
   | (with_reducible refine LeO.ite ?_ ?_)
   | (with_reducible refine LeO.bind ?_ (fun _=>?_))
   | exact ih0 _ _ _ _ _ _ _ _ _ _ _ _
   | exact ih1 _ _ _ _ _ _ _ _ _
   | exact ih2 _ _ _
   | exact laws_eqExitS.mono _ _ _
   | exact laws_eqTree.mono _ _ _
   | exact laws_heldExitS.mono _ _ _
   | exact laws_markExitS.mono _ _ _
   | exact laws_markTree.mono _ _ _
   | exact laws_szTree.mono _ _ _
   | exact laws_toExitS.mono _ _
   | exact laws_toTree.mono _ _
   | exact spec_PushExit.mono _ _ _ _ _ _
   | exact LeO.none _
   | refine LeO.ite ?_ ?_
   | refine LeO.bind ?_ (fun _=>?_)
theorem laws_FnExactPushExit.mono : ∀ a0 a1 a2 a3 a4 k,LeO (laws_FnExactPushExit.f k a0 a1 a2 a3 a4) (laws_FnExactPushExit.f (k + 1) a0 a1 a2 a3 a4):=by
 intro a0 a1 a2 a3 a4 k
 obtain ⟨ih0,ih1,ih2⟩:=laws_FnExactPushExit.mono_l k
 unfold laws_FnExactPushExit.f
 repeat' first
   | (with_reducible exact ih0 _ _ _ _ _ _ _ _ _ _ _ _)
   | (with_reducible exact ih1 _ _ _ _ _ _ _ _ _)
   | (with_reducible exact ih2 _ _ _)
   | (with_reducible exact laws_eqExitS.mono _ _ _)
   | (with_reducible exact laws_eqTree.mono _ _ _)
   | (with_reducible exact laws_heldExitS.mono _ _ _)
   | (with_reducible exact laws_markExitS.mono _ _ _)
   | (with_reducible exact laws_markTree.mono _ _ _)
   | (with_reducible exact laws_szTree.mono _ _ _)
   | (with_reducible exact laws_toExitS.mono _ _)
   | (with_reducible exact laws_toTree.mono _ _)
   | (with_reducible exact spec_PushExit.mono _ _ _ _ _ _)
   | (with_reducible exact LeO.refl _)
   | (with_reducible exact LeO.none _)
   | (with_reducible refine LeO.ite ?_ ?_)
   | (with_reducible refine LeO.bind ?_ (fun _=>?_))
   | exact ih0 _ _ _ _ _ _ _ _ _ _ _ _
   | exact ih1 _ _ _ _ _ _ _ _ _
   | exact ih2 _ _ _
   | exact laws_eqExitS.mono _ _ _
   | exact laws_eqTree.mono _ _ _
   | exact laws_heldExitS.mono _ _ _
   | exact laws_markExitS.mono _ _ _
   | exact laws_markTree.mono _ _ _
   | exact laws_szTree.mono _ _ _
   | exact laws_toExitS.mono _ _
   | exact laws_toTree.mono _ _
   | exact spec_PushExit.mono _ _ _ _ _ _
   | exact LeO.none _
   | refine LeO.ite ?_ ?_
   | refine LeO.bind ?_ (fun _=>?_)
def laws_FnExactPushExit.T8 : Bool × List (List Nat × List Nat):=(true,[([],[]),([0],[0]),([],[]),([2,1],[2]),([],[]),([4,3],[4]),([1,3,5,5],[1,3,5]),([6],[6]),([7],[7]),([7],[7]),([8,6,0,1,2,3,4,5,6,7,8],[8]),([9,10,0,1,2,3,4,5,6,7,8,9,10],[9])])
def laws_FnExactPushExit.B8 : List Nat:=[0,1,0,7,0,31,63,127,255,255,511,2047]
theorem laws_FnExactPushExit.tab8 : rtab .any (opsOf Try.f3 8) = laws_FnExactPushExit.T8:=by kernel_rfl
theorem laws_FnExactPushExit.bits8 : waitsOk laws_FnExactPushExit.T8.2 laws_FnExactPushExit.B8 = true:=by kernel_rfl
def laws_FnExactPushExit.T11 : Bool × List (List Nat × List Nat):=(true,[([],[]),([],[]),([],[]),([2],[2]),([0,1,3,3],[0,1,3]),([4],[4]),([5],[5]),([5],[5]),([6,4,0,1,2,3,4,5,6],[6]),([7,8,0,1,2,3,4,5,6,7,8],[7])])
def laws_FnExactPushExit.B11 : List Nat:=[0,0,0,4,15,31,63,63,127,511]
theorem laws_FnExactPushExit.tab11 : rtab .any (opsOf Try.f3 11) = laws_FnExactPushExit.T11:=by kernel_rfl
theorem laws_FnExactPushExit.bits11 : waitsOk laws_FnExactPushExit.T11.2 laws_FnExactPushExit.B11 = true:=by kernel_rfl
def laws_FnExactPushExit.T31 : Bool × List (List Nat × List Nat):=(true,[([],[]),([0],[0]),([],[]),([2,1],[2]),([],[]),([4,3],[4]),([1,3,5,5],[1,3,5]),([6],[6]),([7],[7]),([7],[7]),([8,6,0,1,2,3,4,5,6,7,8],[8]),([9,10,0,1,2,3,4,5,6,7,8,9,10],[9])])
def laws_FnExactPushExit.B31 : List Nat:=[0,1,0,7,0,31,63,127,255,255,511,2047]
theorem laws_FnExactPushExit.tab31 : rtab .any (opsOf Try.f3 31) = laws_FnExactPushExit.T31:=by kernel_rfl
theorem laws_FnExactPushExit.bits31 : waitsOk laws_FnExactPushExit.T31.2 laws_FnExactPushExit.B31 = true:=by kernel_rfl
set_option maxHeartbeats 8000000 in
set_option maxRecDepth 100000 in
theorem laws_FnExactPushExit.calls (k : Nat) (A0_0 : Option Addr) (c0_0 : Nat) (l0_0 : List (S73)) (A1 : Option Addr) (c1 : Nat) (l1 : List (S27)) (a2_0 : Int) (a2_1 : Int) (a2_2 : Int) (r : Bool) (w : World) (hr0_0 : Kd.C k73 w A0_0 l0_0.length l0_0) (hc0_0 : l0_0.length ≤ c0_0) (hr1 : Kd.C k27 w A1 l1.length l1) (hc1 : l1.length ≤ c1) (h : laws_FnExactPushExit.f k l0_0 l1 a2_0 a2_1 a2_2 = some r) :
  Calls Try.prog 3 #[.agg #[.slice A0_0 l0_0.length c0_0],.slice A1 l1.length c1,.agg #[.int .i64 a2_0,.int .i64 a2_1,.int .i64 a2_2]] w fun e w'=>e = .returned (.bool r) ∧ Below w.heap.size w w':=by
 have hu24:=Try.underlying24
 have hu27:=Try.underlying27
 have hu35:=Try.underlying35
 have HR0_0:=a0_ hr0_0
 have HC0_0:=a0_ hc0_0
 clear hr0_0 hc0_0
 have HR1:=a0_ hr1
 have HC1:=a0_ hc1
 clear hr1 hc1
 have HB:=a0_ (Below.refl w.heap.size w)
 have H : ((laws_szTree.f k l0_0 1048576).bind fun t3=>(if t3 < 0 then (some true) else ((laws_szExitS.f l1 t3).bind fun t4=>(if t4 < 0 then (some true) else ((laws_toTree.f k l0_0).bind fun t5=>((laws_toExitS.f k l1).bind fun t8=>((laws_toExit.f a2_0 a2_1 a2_2).bind fun bt11=>((spec_PushExit.f k t5 t8 bt11.1 bt11.2.1 bt11.2.2).bind fun bt14=>((laws_toTree.f k l0_0).bind fun t18=>((laws_toExitS.f k l1).bind fun t22=>((laws_toExit.f a2_0 a2_1 a2_2).bind fun bt25=>((impl_PushExit.f t18 t22 bt25.1 bt25.2.1 bt25.2.2).bind fun bt28=>((laws_eqExitS.f k bt28.1 bt14.1).bind fun t32=>(if t32 = true then (laws_FnExactPushExit.j0 k l1 bt14.1 bt14.2 t22 bt28.1 bt28.2 (bt28.2 != bt14.2) l0_0 a2_0 a2_1 a2_2 t18) else (laws_FnExactPushExit.j0 k l1 bt14.1 bt14.2 t22 bt28.1 bt28.2 true l0_0 a2_0 a2_1 a2_2 t18))))))))))))))) = some r:=h
 clear h
 replace H:=Option.bind_eq_some_iff.mp H
 obtain ⟨t3,A40,H⟩:=H
 replace H : (if t3 < 0 then (some true) else ((laws_szExitS.f l1 t3).bind fun t4=>(if t4 < 0 then (some true) else ((laws_toTree.f k l0_0).bind fun t5=>((laws_toExitS.f k l1).bind fun t8=>((laws_toExit.f a2_0 a2_1 a2_2).bind fun bt11=>((spec_PushExit.f k t5 t8 bt11.1 bt11.2.1 bt11.2.2).bind fun bt14=>((laws_toTree.f k l0_0).bind fun t18=>((laws_toExitS.f k l1).bind fun t22=>((laws_toExit.f a2_0 a2_1 a2_2).bind fun bt25=>((impl_PushExit.f t18 t22 bt25.1 bt25.2.1 bt25.2.2).bind fun bt28=>((laws_eqExitS.f k bt28.1 bt14.1).bind fun t32=>(if t32 = true then (laws_FnExactPushExit.j0 k l1 bt14.1 bt14.2 t22 bt28.1 bt28.2 (bt28.2 != bt14.2) l0_0 a2_0 a2_1 a2_2 t18) else (laws_FnExactPushExit.j0 k l1 bt14.1 bt14.2 t22 bt28.1 bt28.2 true l0_0 a2_0 a2_1 a2_2 t18)))))))))))))) = some r:=H
 have A4:=a0_ A40
 clear A40
 by_cases c5 : t3 < 0
 ·rw [if_pos c5] at H
  have c5b0 : decide (t3 < 0) = true:=decide_eq_true c5
  clear c5
  obtain rfl:=Option.some.inj H
  go_enter Try.func3,Try.ntmps3
  go_wp2_with (first | ((with_reducible refine gate_dst (N:=3) rfl ?_);refine box_event ?hg (N:=3) ?hd (cs:=#[.slice A0_0 l0_0.length c0_0]) (t:=24) ?hr ?_;(case hd=>rfl);(case hg=>rfl);(case hr=>first | (go_simp;done) | (go_simp;rfl));intro gb1 hg w6 hbox hb;have n0_:=a0_ (below_step hb_ hb);have n1_:=a0_ (hbox);have n2_:=a0_ ((by rw [hg];exact (below_size hb_) : w.heap.size ≤ gb1));have n3_:=a0_ ((by rw [hg];exact (below_size hb_) : w.heap.size ≤ gb1));clear HB;have HB:=n0_;have BK1:=n1_;have GW1:=n2_;have GE1:=n3_;clear n0_ n1_ n2_ n3_;clear hb hbox hg) | ((with_reducible refine gate_dst (N:=5) rfl ?_);refine box_event ?hg (N:=5) ?hd (cs:=#[.int .i64 a2_0,.int .i64 a2_1,.int .i64 a2_2]) (t:=27) ?hr ?_;(case hd=>rfl);(case hg=>rfl);(case hr=>first | (go_simp;done) | (go_simp;rfl));intro gb2 hg w7 hbox hb;have n0_:=a0_ (blk_below (bb_ BK1.1) hb);have n1_:=a0_ (below_step hb_ hb);have n2_:=a0_ (hbox);have n3_:=a0_ ((by rw [hg];exact (below_size hb_) : w.heap.size ≤ gb2));have n4_:=a0_ ((by rw [hg];exact (below_size hb_) : w.heap.size ≤ gb2));have n5_:=a0_ ((by rw [hg];exact Nat.ne_of_lt (blk_lt (bb_ BK1.1)) : gb1 ≠ gb2));have n6_:=a0_ ((by rw [hg];exact Nat.ne_of_gt (blk_lt (bb_ BK1.1)) : gb2 ≠ gb1));clear BK1 HB;have BK1:=n0_;have HB:=n1_;have BK2:=n2_;have GW2:=n3_;have GE2:=n4_;have NB1_2:=n5_;have NB2_1:=n6_;clear n0_ n1_ n2_ n3_ n4_ n5_ n6_;clear hb hbox hg;have hnb8:=NB1_2.1;have hnc8:=NB2_1.1;have hcz9_0 : w7.cell? ⟨gb1,0,none⟩ = some (.slice A0_0 l0_0.length c0_0):=(blk_cell BK1.1 0).trans rfl;have hfz9_0:=blk_frozen BK1.1 0) | ((with_reducible refine gate_callee (f:=7) rfl ?_);refine goesL_ (some 21) rfl rfl Try.func7 (by kernel_rfl) rfl #[.agg #[.slice A0_0 l0_0.length c0_0],.int .i64 1048576] rfl lm_ ?_;(with_reducible refine (laws_szTree.calls k _ _ l0_0 1048576 t3 _ ?side1 ?side2 A4.1).mono ?_);(case side1=>exact cc_ (Kd.C_below HR0_0.1 HB.1));(case side2=>exact HC0_0.1);rintro e w10 ⟨rfl,hb⟩;refine ⟨_,rfl,?_⟩;have n0_:=a0_ (blk_below (bb_ BK1.1) hb);have n1_:=a0_ (blk_below (bb_ BK2.1) hb);have n2_:=a0_ (below_step hb_ hb);clear BK1 BK2 HB;have BK1:=n0_;have BK2:=n1_;have HB:=n2_;clear n0_ n1_ n2_;(try clear hb);(try clear hb2);(try clear hk);(try clear hi)))
  go_ret
  exact ⟨by first | rfl | (simp [errW_none,errW_some] <;> rfl) | (simp [*,errW_none,errW_some] <;> rfl),hb_⟩
 ·rw [if_neg c5] at H
  have c5b0 : decide (t3 < 0) = false:=decide_eq_false c5
  clear c5
  replace H:=Option.bind_eq_some_iff.mp H
  obtain ⟨t4,A110,H⟩:=H
  replace H : (if t4 < 0 then (some true) else ((laws_toTree.f k l0_0).bind fun t5=>((laws_toExitS.f k l1).bind fun t8=>((laws_toExit.f a2_0 a2_1 a2_2).bind fun bt11=>((spec_PushExit.f k t5 t8 bt11.1 bt11.2.1 bt11.2.2).bind fun bt14=>((laws_toTree.f k l0_0).bind fun t18=>((laws_toExitS.f k l1).bind fun t22=>((laws_toExit.f a2_0 a2_1 a2_2).bind fun bt25=>((impl_PushExit.f t18 t22 bt25.1 bt25.2.1 bt25.2.2).bind fun bt28=>((laws_eqExitS.f k bt28.1 bt14.1).bind fun t32=>(if t32 = true then (laws_FnExactPushExit.j0 k l1 bt14.1 bt14.2 t22 bt28.1 bt28.2 (bt28.2 != bt14.2) l0_0 a2_0 a2_1 a2_2 t18) else (laws_FnExactPushExit.j0 k l1 bt14.1 bt14.2 t22 bt28.1 bt28.2 true l0_0 a2_0 a2_1 a2_2 t18)))))))))))) = some r:=H
  have A11:=a0_ A110
  clear A110
  by_cases c12 : t4 < 0
  ·rw [if_pos c12] at H
   have c12b0 : decide (t4 < 0) = true:=decide_eq_true c12
   clear c12
   obtain rfl:=Option.some.inj H
   go_enter Try.func3,Try.ntmps3
   go_wp2_with (first | ((with_reducible refine gate_dst (N:=3) rfl ?_);refine box_event ?hg (N:=3) ?hd (cs:=#[.slice A0_0 l0_0.length c0_0]) (t:=24) ?hr ?_;(case hd=>rfl);(case hg=>rfl);(case hr=>first | (go_simp;done) | (go_simp;rfl));intro gb1 hg w13 hbox hb;have n0_:=a0_ (below_step hb_ hb);have n1_:=a0_ (hbox);have n2_:=a0_ ((by rw [hg];exact (below_size hb_) : w.heap.size ≤ gb1));have n3_:=a0_ ((by rw [hg];exact (below_size hb_) : w.heap.size ≤ gb1));clear HB;have HB:=n0_;have BK1:=n1_;have GW1:=n2_;have GE1:=n3_;clear n0_ n1_ n2_ n3_;clear hb hbox hg) | ((with_reducible refine gate_dst (N:=5) rfl ?_);refine box_event ?hg (N:=5) ?hd (cs:=#[.int .i64 a2_0,.int .i64 a2_1,.int .i64 a2_2]) (t:=27) ?hr ?_;(case hd=>rfl);(case hg=>rfl);(case hr=>first | (go_simp;done) | (go_simp;rfl));intro gb2 hg w14 hbox hb;have n0_:=a0_ (blk_below (bb_ BK1.1) hb);have n1_:=a0_ (below_step hb_ hb);have n2_:=a0_ (hbox);have n3_:=a0_ ((by rw [hg];exact (below_size hb_) : w.heap.size ≤ gb2));have n4_:=a0_ ((by rw [hg];exact (below_size hb_) : w.heap.size ≤ gb2));have n5_:=a0_ ((by rw [hg];exact Nat.ne_of_lt (blk_lt (bb_ BK1.1)) : gb1 ≠ gb2));have n6_:=a0_ ((by rw [hg];exact Nat.ne_of_gt (blk_lt (bb_ BK1.1)) : gb2 ≠ gb1));clear BK1 HB;have BK1:=n0_;have HB:=n1_;have BK2:=n2_;have GW2:=n3_;have GE2:=n4_;have NB1_2:=n5_;have NB2_1:=n6_;clear n0_ n1_ n2_ n3_ n4_ n5_ n6_;clear hb hbox hg;have hnb15:=NB1_2.1;have hnc15:=NB2_1.1;have hcz16_0 : w14.cell? ⟨gb1,0,none⟩ = some (.slice A0_0 l0_0.length c0_0):=(blk_cell BK1.1 0).trans rfl;have hfz16_0:=blk_frozen BK1.1 0) | ((with_reducible refine gate_callee (f:=7) rfl ?_);refine goesL_ (some 21) rfl rfl Try.func7 (by kernel_rfl) rfl #[.agg #[.slice A0_0 l0_0.length c0_0],.int .i64 1048576] rfl lm_ ?_;(with_reducible refine (laws_szTree.calls k _ _ l0_0 1048576 t3 _ ?side1 ?side2 A4.1).mono ?_);(case side1=>exact cc_ (Kd.C_below HR0_0.1 HB.1));(case side2=>exact HC0_0.1);rintro e w17 ⟨rfl,hb⟩;refine ⟨_,rfl,?_⟩;have n0_:=a0_ (blk_below (bb_ BK1.1) hb);have n1_:=a0_ (blk_below (bb_ BK2.1) hb);have n2_:=a0_ (below_step hb_ hb);clear BK1 BK2 HB;have BK1:=n0_;have BK2:=n1_;have HB:=n2_;clear n0_ n1_ n2_;(try clear hb);(try clear hb2);(try clear hk);(try clear hi)) | ((with_reducible refine gate_callee (f:=8) rfl ?_);refine goesL_ (some 26) rfl rfl Try.func8 (by kernel_rfl) rfl #[.slice A1 l1.length c1,.int .i64 t3] rfl lm_ ?_;(with_reducible refine (laws_szExitS.calls _ _ l1 t3 t4 _ ?side1 ?side2 A11.1).mono ?_);(case side1=>exact cc_ (Kd.C_below HR1.1 HB.1));(case side2=>exact HC1.1);rintro e w' ⟨rfl,⟨nd,rfl⟩⟩;refine ⟨_,rfl,?_⟩))
   go_ret
   exact ⟨by first | rfl | (simp [errW_none,errW_some] <;> rfl) | (simp [*,errW_none,errW_some] <;> rfl),hb_⟩
  ·rw [if_neg c12] at H
   have c12b0 : decide (t4 < 0) = false:=decide_eq_false c12
   clear c12
   replace H:=Option.bind_eq_some_iff.mp H
   obtain ⟨t5,A180,H⟩:=H
   replace H : ((laws_toExitS.f k l1).bind fun t8=>((laws_toExit.f a2_0 a2_1 a2_2).bind fun bt11=>((spec_PushExit.f k t5 t8 bt11.1 bt11.2.1 bt11.2.2).bind fun bt14=>((laws_toTree.f k l0_0).bind fun t18=>((laws_toExitS.f k l1).bind fun t22=>((laws_toExit.f a2_0 a2_1 a2_2).bind fun bt25=>((impl_PushExit.f t18 t22 bt25.1 bt25.2.1 bt25.2.2).bind fun bt28=>((laws_eqExitS.f k bt28.1 bt14.1).bind fun t32=>(if t32 = true then (laws_FnExactPushExit.j0 k l1 bt14.1 bt14.2 t22 bt28.1 bt28.2 (bt28.2 != bt14.2) l0_0 a2_0 a2_1 a2_2 t18) else (laws_FnExactPushExit.j0 k l1 bt14.1 bt14.2 t22 bt28.1 bt28.2 true l0_0 a2_0 a2_1 a2_2 t18)))))))))) = some r:=H
   have A18:=a0_ A180
   clear A180
   replace H:=Option.bind_eq_some_iff.mp H
   obtain ⟨t8,A190,H⟩:=H
   replace H : ((laws_toExit.f a2_0 a2_1 a2_2).bind fun bt11=>((spec_PushExit.f k t5 t8 bt11.1 bt11.2.1 bt11.2.2).bind fun bt14=>((laws_toTree.f k l0_0).bind fun t18=>((laws_toExitS.f k l1).bind fun t22=>((laws_toExit.f a2_0 a2_1 a2_2).bind fun bt25=>((impl_PushExit.f t18 t22 bt25.1 bt25.2.1 bt25.2.2).bind fun bt28=>((laws_eqExitS.f k bt28.1 bt14.1).bind fun t32=>(if t32 = true then (laws_FnExactPushExit.j0 k l1 bt14.1 bt14.2 t22 bt28.1 bt28.2 (bt28.2 != bt14.2) l0_0 a2_0 a2_1 a2_2 t18) else (laws_FnExactPushExit.j0 k l1 bt14.1 bt14.2 t22 bt28.1 bt28.2 true l0_0 a2_0 a2_1 a2_2 t18))))))))) = some r:=H
   have A19:=a0_ A190
   clear A190
   replace H:=Option.bind_eq_some_iff.mp H
   obtain ⟨⟨t11,t12,t13⟩,A200,H⟩:=H
   replace H : ((spec_PushExit.f k t5 t8 t11 t12 t13).bind fun bt14=>((laws_toTree.f k l0_0).bind fun t18=>((laws_toExitS.f k l1).bind fun t22=>((laws_toExit.f a2_0 a2_1 a2_2).bind fun bt25=>((impl_PushExit.f t18 t22 bt25.1 bt25.2.1 bt25.2.2).bind fun bt28=>((laws_eqExitS.f k bt28.1 bt14.1).bind fun t32=>(if t32 = true then (laws_FnExactPushExit.j0 k l1 bt14.1 bt14.2 t22 bt28.1 bt28.2 (bt28.2 != bt14.2) l0_0 a2_0 a2_1 a2_2 t18) else (laws_FnExactPushExit.j0 k l1 bt14.1 bt14.2 t22 bt28.1 bt28.2 true l0_0 a2_0 a2_1 a2_2 t18)))))))) = some r:=H
   have A20:=a0_ A200
   clear A200
   replace H:=Option.bind_eq_some_iff.mp H
   obtain ⟨⟨t14,t17⟩,A210,H⟩:=H
   replace H : ((laws_toTree.f k l0_0).bind fun t18=>((laws_toExitS.f k l1).bind fun t22=>((laws_toExit.f a2_0 a2_1 a2_2).bind fun bt25=>((impl_PushExit.f t18 t22 bt25.1 bt25.2.1 bt25.2.2).bind fun bt28=>((laws_eqExitS.f k bt28.1 t14).bind fun t32=>(if t32 = true then (laws_FnExactPushExit.j0 k l1 t14 t17 t22 bt28.1 bt28.2 (bt28.2 != t17) l0_0 a2_0 a2_1 a2_2 t18) else (laws_FnExactPushExit.j0 k l1 t14 t17 t22 bt28.1 bt28.2 true l0_0 a2_0 a2_1 a2_2 t18))))))) = some r:=H
   have A21:=a0_ A210
   clear A210
   replace H:=Option.bind_eq_some_iff.mp H
   obtain ⟨t18,A220,H⟩:=H
   replace H : ((laws_toExitS.f k l1).bind fun t22=>((laws_toExit.f a2_0 a2_1 a2_2).bind fun bt25=>((impl_PushExit.f t18 t22 bt25.1 bt25.2.1 bt25.2.2).bind fun bt28=>((laws_eqExitS.f k bt28.1 t14).bind fun t32=>(if t32 = true then (laws_FnExactPushExit.j0 k l1 t14 t17 t22 bt28.1 bt28.2 (bt28.2 != t17) l0_0 a2_0 a2_1 a2_2 t18) else (laws_FnExactPushExit.j0 k l1 t14 t17 t22 bt28.1 bt28.2 true l0_0 a2_0 a2_1 a2_2 t18)))))) = some r:=H
   have A22:=a0_ A220
   clear A220
   replace H:=Option.bind_eq_some_iff.mp H
   obtain ⟨t22,A230,H⟩:=H
   replace H : ((laws_toExit.f a2_0 a2_1 a2_2).bind fun bt25=>((impl_PushExit.f t18 t22 bt25.1 bt25.2.1 bt25.2.2).bind fun bt28=>((laws_eqExitS.f k bt28.1 t14).bind fun t32=>(if t32 = true then (laws_FnExactPushExit.j0 k l1 t14 t17 t22 bt28.1 bt28.2 (bt28.2 != t17) l0_0 a2_0 a2_1 a2_2 t18) else (laws_FnExactPushExit.j0 k l1 t14 t17 t22 bt28.1 bt28.2 true l0_0 a2_0 a2_1 a2_2 t18))))) = some r:=H
   have A23:=a0_ A230
   clear A230
   replace H:=Option.bind_eq_some_iff.mp H
   obtain ⟨⟨t25,t26,t27⟩,A240,H⟩:=H
   replace H : ((impl_PushExit.f t18 t22 t25 t26 t27).bind fun bt28=>((laws_eqExitS.f k bt28.1 t14).bind fun t32=>(if t32 = true then (laws_FnExactPushExit.j0 k l1 t14 t17 t22 bt28.1 bt28.2 (bt28.2 != t17) l0_0 a2_0 a2_1 a2_2 t18) else (laws_FnExactPushExit.j0 k l1 t14 t17 t22 bt28.1 bt28.2 true l0_0 a2_0 a2_1 a2_2 t18)))) = some r:=H
   have A24:=a0_ A240
   clear A240
   replace H:=Option.bind_eq_some_iff.mp H
   obtain ⟨⟨t28,t31⟩,A250,H⟩:=H
   replace H : ((laws_eqExitS.f k t28 t14).bind fun t32=>(if t32 = true then (laws_FnExactPushExit.j0 k l1 t14 t17 t22 t28 t31 (t31 != t17) l0_0 a2_0 a2_1 a2_2 t18) else (laws_FnExactPushExit.j0 k l1 t14 t17 t22 t28 t31 true l0_0 a2_0 a2_1 a2_2 t18))) = some r:=H
   have A25:=a0_ A250
   clear A250
   have HC26:=a0_ H
   clear H
   go_enter Try.func3,Try.ntmps3
   try go_wp2_with (first | ((with_reducible refine gate_dst (N:=3) rfl ?_);refine box_event ?hg (N:=3) ?hd (cs:=#[.slice A0_0 l0_0.length c0_0]) (t:=24) ?hr ?_;(case hd=>rfl);(case hg=>rfl);(case hr=>first | (go_simp;done) | (go_simp;rfl));intro gb1 hg w27 hbox hb;have n0_:=a0_ (below_step hb_ hb);have n1_:=a0_ (hbox);have n2_:=a0_ ((by rw [hg];exact (below_size hb_) : w.heap.size ≤ gb1));have n3_:=a0_ ((by rw [hg];exact (below_size hb_) : w.heap.size ≤ gb1));clear HB;have HB:=n0_;have BK1:=n1_;have GW1:=n2_;have GE1:=n3_;clear n0_ n1_ n2_ n3_;clear hb hbox hg) | ((with_reducible refine gate_dst (N:=5) rfl ?_);refine box_event ?hg (N:=5) ?hd (cs:=#[.int .i64 a2_0,.int .i64 a2_1,.int .i64 a2_2]) (t:=27) ?hr ?_;(case hd=>rfl);(case hg=>rfl);(case hr=>first | (go_simp;done) | (go_simp;rfl));intro gb2 hg w28 hbox hb;have n0_:=a0_ (blk_below (bb_ BK1.1) hb);have n1_:=a0_ (below_step hb_ hb);have n2_:=a0_ (hbox);have n3_:=a0_ ((by rw [hg];exact (below_size hb_) : w.heap.size ≤ gb2));have n4_:=a0_ ((by rw [hg];exact (below_size hb_) : w.heap.size ≤ gb2));have n5_:=a0_ ((by rw [hg];exact Nat.ne_of_lt (blk_lt (bb_ BK1.1)) : gb1 ≠ gb2));have n6_:=a0_ ((by rw [hg];exact Nat.ne_of_gt (blk_lt (bb_ BK1.1)) : gb2 ≠ gb1));clear BK1 HB;have BK1:=n0_;have HB:=n1_;have BK2:=n2_;have GW2:=n3_;have GE2:=n4_;have NB1_2:=n5_;have NB2_1:=n6_;clear n0_ n1_ n2_ n3_ n4_ n5_ n6_;clear hb hbox hg;have hnb29:=NB1_2.1;have hnc29:=NB2_1.1;have hcz30_0 : w28.cell? ⟨gb1,0,none⟩ = some (.slice A0_0 l0_0.length c0_0):=(blk_cell BK1.1 0).trans rfl;have hfz30_0:=blk_frozen BK1.1 0) | ((with_reducible refine gate_callee (f:=7) rfl ?_);refine goesL_ (some 21) rfl rfl Try.func7 (by kernel_rfl) rfl #[.agg #[.slice A0_0 l0_0.length c0_0],.int .i64 1048576] rfl lm_ ?_;(with_reducible refine (laws_szTree.calls k _ _ l0_0 1048576 t3 _ ?side1 ?side2 A4.1).mono ?_);(case side1=>exact cc_ (Kd.C_below HR0_0.1 HB.1));(case side2=>exact HC0_0.1);rintro e w31 ⟨rfl,hb⟩;refine ⟨_,rfl,?_⟩;have n0_:=a0_ (blk_below (bb_ BK1.1) hb);have n1_:=a0_ (blk_below (bb_ BK2.1) hb);have n2_:=a0_ (below_step hb_ hb);clear BK1 BK2 HB;have BK1:=n0_;have BK2:=n1_;have HB:=n2_;clear n0_ n1_ n2_;(try clear hb);(try clear hb2);(try clear hk);(try clear hi)) | ((with_reducible refine gate_callee (f:=8) rfl ?_);refine goesL_ (some 26) rfl rfl Try.func8 (by kernel_rfl) rfl #[.slice A1 l1.length c1,.int .i64 t3] rfl lm_ ?_;(with_reducible refine (laws_szExitS.calls _ _ l1 t3 t4 _ ?side1 ?side2 A11.1).mono ?_);(case side1=>exact cc_ (Kd.C_below HR1.1 HB.1));(case side2=>exact HC1.1);rintro e w' ⟨rfl,⟨nd,rfl⟩⟩;refine ⟨_,rfl,?_⟩;(try (rw [drewN_self w31];generalize hq_ : World.drewN w31 _ = w31;have n0_ : Aside0 (w31.heap[gb1]? = some (.cells #[.slice A0_0 l0_0.length c0_0] 24 (0,0))):=⟨by rw [← hq_];exact (bb_ BK1.1)⟩;have n1_ : Aside0 (w31.heap[gb2]? = some (.cells #[.int .i64 a2_0,.int .i64 a2_1,.int .i64 a2_2] 27 (0,0))):=⟨by rw [← hq_];exact (bb_ BK2.1)⟩;have n2_ : Aside0 (Below w.heap.size w w31):=⟨by rw [← hq_];exact hb_⟩;clear BK1 BK2 HB hq_;have BK1:=n0_;have BK2:=n1_;have HB:=n2_;clear n0_ n1_ n2_))))
   have n0_:=a0_ (blk_drew BK1.1)
   have n1_:=a0_ (blk_drew BK2.1)
   have n2_:=a0_ (below_drew1 HB.1)
   clear BK1
   clear BK2
   clear HB
   have BK1:=n0_
   have BK2:=n1_
   have HB:=n2_
   clear n0_ n1_ n2_
   refine start_ (n:=12) (S:=fun w'=>w'.cell? ⟨gb1,0,none⟩ = some (.slice A0_0 l0_0.length c0_0) ∧ w'.cell? ⟨gb2,0,none⟩ = some (.int .i64 a2_0) ∧ w'.cell? ⟨gb2,1,none⟩ = some (.int .i64 a2_1) ∧ w'.cell? ⟨gb2,2,none⟩ = some (.int .i64 a2_2)) (ds:=[]) #[false,false,false,false,false,false,false,false,false,false,false,false] (by kernel_rfl) rfl rfl ⟨(blk_cell BK1.1 0).trans rfl,(blk_cell BK2.1 0).trans rfl,(blk_cell BK2.1 1).trans rfl,(blk_cell BK2.1 2).trans rfl⟩ (fun hHeld=>?_);refine with_tabW laws_FnExactPushExit.tab8 laws_FnExactPushExit.bits8 (fun HT_ HW_=>?_)
   generalize w31.drew = w32 at BK1 BK2 HB hHeld ⊢
   refine pure_ (i:=2) (N:=some 32) (v:=?_) (a':=?_) #[false,false,true,false,false,false,false,false,false,false,false,false] rfl rfl (any_of HT_.out (by kernel_rfl)) (fun _ _ _ h=>h) (Or.inl ⟨by rfl,?_⟩) ?_ ?_
   rotate_left
   ·intro w'
    go_simp
    with_reducible rfl
   rotate_left
   ·simp only [Act.put,s1_,s2_,s3_,i64_w,i32_w]
    rfl
   refine take_ (i:=0) (N:=some 30) (v:=?_) (a':=?_) #[true,false,true,false,false,false,false,false,false,false,false,false] rfl rfl (take_ofW HT_.out HW_.out (by kernel_rfl)) (fun _ _ _ h=>h) (Or.inl ⟨by rfl,?_⟩) hHeld ?_ ?_
   rotate_left
   ·rintro w' ⟨s0,s1,s2,s3⟩
    go_simp
    with_reducible rfl
   rotate_left
   ·simp only [Act.put,s1_,s2_,s3_,i64_w,i32_w]
    rfl
   refine take_ (i:=4) (N:=some 34) (v:=?_) (a':=?_) #[true,false,true,false,true,false,false,false,false,false,false,false] rfl rfl (take_ofW HT_.out HW_.out (by kernel_rfl)) (fun _ _ _ h=>h) (Or.inl ⟨by rfl,?_⟩) hHeld ?_ ?_
   rotate_left
   ·rintro w' ⟨s0,s1,s2,s3⟩
    go_simp
    with_reducible rfl
   rotate_left
   ·simp only [Act.put,s1_,s2_,s3_,i64_w,i32_w]
    rfl
   refine one_ (i:=1) (N:=some 31) #[true,true,true,false,true,false,false,false,false,false,false,false] rfl rfl (one_of HT_.out (by kernel_rfl)) (by decide) (fun K hK=>?_)
   refine goes_ Try.func10 (by kernel_rfl) rfl #[.agg #[.slice A0_0 l0_0.length c0_0]] (by rfl) rfl rfl lm_ ?_
   with_reducible refine (laws_toTree.calls k _ _ l0_0 t5 _ ?side1 ?side2 A18.1).mono ?_
   (case side1=>exact cc_ (Kd.C_below HR0_0.1 HB.1))
   (case side2=>exact HC0_0.1)
   rintro e w33 ⟨v6,rfl,ho0,hb⟩
   refine ⟨_,rfl,?_⟩
   have n0_:=a0_ (Kd.R_lower ho0 (below_size hb_))
   have n1_:=a0_ (blk_below (bb_ BK1.1) hb)
   have n2_:=a0_ (blk_below (bb_ BK2.1) hb)
   have n3_:=a0_ (below_step hb_ hb)
   clear BK1
   clear BK2
   clear HB
   have HO7:=n0_
   have BK1:=n1_
   have BK2:=n2_
   have HB:=n3_
   clear n0_ n1_ n2_ n3_
   (try clear hb)
   (try clear hb2)
   (try clear hk)
   (try clear hi)
   (try clear ho0)
   refine hK.out _ _ ⟨(blk_cell BK1.1 0).trans rfl,(blk_cell BK2.1 0).trans rfl,(blk_cell BK2.1 1).trans rfl,(blk_cell BK2.1 2).trans rfl⟩ (fun hHeld=>?_)
   clear hK K
   refine norm_ (a':=?_) ?_ ?_
   rotate_left
   ·show Act.put _ (some 31) _ = _
    simp only [Act.put,s1_,s2_,s3_,i64_w,i32_w]
    rfl
   refine one_ (i:=3) (N:=some 33) #[true,true,true,true,true,false,false,false,false,false,false,false] rfl rfl (one_of HT_.out (by kernel_rfl)) (by decide) (fun K hK=>?_)
   refine goes_ Try.func11 (by kernel_rfl) rfl #[.slice A1 l1.length c1] (by rfl) rfl rfl lm_ ?_
   with_reducible refine (laws_toExitS.calls k _ _ l1 t8 _ ?side1 ?side2 A19.1).mono ?_
   (case side1=>exact cc_ (Kd.C_below HR1.1 HB.1))
   (case side2=>exact HC1.1)
   rintro e w34 ⟨v9,rfl,ho0,hb⟩
   refine ⟨_,rfl,?_⟩
   have n0_:=a0_ (Kd.R_below (rr_ HO7.1) hb)
   have n1_:=a0_ (Kd.R_lower ho0 (below_size hb_))
   have n2_:=a0_ (blk_below (bb_ BK1.1) hb)
   have n3_:=a0_ (blk_below (bb_ BK2.1) hb)
   have n4_:=a0_ (below_step hb_ hb)
   clear HO7
   clear BK1
   clear BK2
   clear HB
   have HO7:=n0_
   have HO10:=n1_
   have BK1:=n2_
   have BK2:=n3_
   have HB:=n4_
   clear n0_ n1_ n2_ n3_ n4_
   (try clear hb)
   (try clear hb2)
   (try clear hk)
   (try clear hi)
   (try clear ho0)
   refine hK.out _ _ ⟨(blk_cell BK1.1 0).trans rfl,(blk_cell BK2.1 0).trans rfl,(blk_cell BK2.1 1).trans rfl,(blk_cell BK2.1 2).trans rfl⟩ (fun hHeld=>?_)
   clear hK K
   refine norm_ (a':=?_) ?_ ?_
   rotate_left
   ·show Act.put _ (some 33) _ = _
    simp only [Act.put,s1_,s2_,s3_,i64_w,i32_w]
    rfl
   refine one_ (i:=5) (N:=some 35) #[true,true,true,true,true,true,false,false,false,false,false,false] rfl rfl (one_of HT_.out (by kernel_rfl)) (by decide) (fun K hK=>?_)
   refine goes_ Try.func12 (by kernel_rfl) rfl #[.agg #[.int .i64 a2_0,.int .i64 a2_1,.int .i64 a2_2]] (by rfl) rfl rfl lm_ ?_
   with_reducible refine (laws_toExit.calls a2_0 a2_1 a2_2 t11 t12 t13 _ A20.1).mono ?_
   rintro e w35 ⟨rfl,hb⟩
   refine ⟨_,rfl,?_⟩
   have n0_:=a0_ (Kd.R_below (rr_ HO7.1) hb)
   have n1_:=a0_ (Kd.R_below (rr_ HO10.1) hb)
   have n2_:=a0_ (blk_below (bb_ BK1.1) hb)
   have n3_:=a0_ (blk_below (bb_ BK2.1) hb)
   have n4_:=a0_ (below_step hb_ hb)
   clear HO7
   clear HO10
   clear BK1
   clear BK2
   clear HB
   have HO7:=n0_
   have HO10:=n1_
   have BK1:=n2_
   have BK2:=n3_
   have HB:=n4_
   clear n0_ n1_ n2_ n3_ n4_
   (try clear hb)
   (try clear hb2)
   (try clear hk)
   (try clear hi)
   obtain ⟨Ao36,co36,eo36⟩:=Kd.R_slice HO7.1
   (first | subst eo36 | (injection eo36 with f1_ f2_ f3_;have f4_:=f1_.symm;have f5_:=f3_.symm;clear f1_ f2_ f3_;subst f4_;subst f5_))
   obtain ⟨Ao37,co37,eo37⟩:=Kd.R_slice HO10.1
   (first | subst eo37 | (injection eo37 with f1_ f2_ f3_;have f4_:=f1_.symm;have f5_:=f3_.symm;clear f1_ f2_ f3_;subst f4_;subst f5_))
   refine hK.out _ _ ⟨(blk_cell BK1.1 0).trans rfl,(blk_cell BK2.1 0).trans rfl,(blk_cell BK2.1 1).trans rfl,(blk_cell BK2.1 2).trans rfl⟩ (fun hHeld=>?_)
   clear hK K
   refine norm_ (a':=?_) ?_ ?_
   rotate_left
   ·show Act.put _ (some 35) _ = _
    simp only [Act.put,s1_,s2_,s3_,i64_w,i32_w]
    rfl
   refine one_ (i:=6) (N:=some 36) #[true,true,true,true,true,true,true,false,false,false,false,false] rfl rfl (one_of HT_.out (by kernel_rfl)) (by decide) (fun K hK=>?_)
   refine goes_ Try.func9 (by kernel_rfl) rfl #[.agg #[.slice Ao36 t5.length co36],.slice Ao37 t8.length co37,.agg #[.int .i64 t11,.int .i64 t12,.int .i64 t13]] (by rfl) rfl rfl lm_ ?_
   with_reducible refine (spec_PushExit.calls k _ _ t5 _ _ t8 t11 t12 t13 t14 t17 _ ?side1 ?side2 ?side3 ?side4 A21.1).mono ?_
   (case side1=>repeat (first | exact (Kd.R_reads' HO7.1).2.2 | (with_reducible refine Kd.C_alloc ?_ _) | (with_reducible refine Kd.C_drewN ?_ _) | (with_reducible refine Kd.C_drew ?_)))
   (case side2=>exact (Kd.R_reads' HO7.1).2.1)
   (case side3=>repeat (first | exact (Kd.R_reads' HO10.1).2.2 | (with_reducible refine Kd.C_alloc ?_ _) | (with_reducible refine Kd.C_drewN ?_ _) | (with_reducible refine Kd.C_drew ?_)))
   (case side4=>exact (Kd.R_reads' HO10.1).2.1)
   rintro e w38 ⟨v15,rfl,ho0,hb⟩
   refine ⟨_,rfl,?_⟩
   have n0_:=a0_ (Kd.R_below (rr_ HO7.1) hb)
   have n1_:=a0_ (Kd.R_elder' (rr_ HO10.1) (Kd.R_base ho0) hb)
   have n2_:=a0_ (Kd.R_lower (Kd.R_new' ho0 (Kd.R_lt (rr_ HO10.1))) (below_size hb_))
   have n3_:=a0_ (blk_below (bb_ BK1.1) hb)
   have n4_:=a0_ (blk_below (bb_ BK2.1) hb)
   have n5_:=a0_ (below_step hb_ hb)
   clear HO7
   clear HO10
   clear BK1
   clear BK2
   clear HB
   have HO7:=n0_
   have HO10:=n1_
   have HO16:=n2_
   have BK1:=n3_
   have BK2:=n4_
   have HB:=n5_
   clear n0_ n1_ n2_ n3_ n4_ n5_
   (try clear hb)
   (try clear hb2)
   (try clear hk)
   (try clear hi)
   (try clear ho0)
   refine hK.out _ _ ⟨(blk_cell BK1.1 0).trans rfl,(blk_cell BK2.1 0).trans rfl,(blk_cell BK2.1 1).trans rfl,(blk_cell BK2.1 2).trans rfl⟩ (fun hHeld=>?_)
   clear hK K
   refine norm_ (a':=?_) ?_ ?_
   rotate_left
   ·show Act.put _ (some 36) _ = _
    simp only [Act.put,s1_,s2_,s3_,i64_w,i32_w]
    rfl
   refine pure_ (i:=7) (N:=some 29) (v:=?_) (a':=?_) #[true,true,true,true,true,true,true,true,false,false,false,false] rfl rfl (any_of HT_.out (by kernel_rfl)) (fun _ _ _ h=>h) (Or.inl ⟨by rfl,?_⟩) ?_ ?_
   rotate_left
   ·intro w'
    go_simp
    with_reducible rfl
   rotate_left
   ·simp only [Act.put,s1_,s2_,s3_,i64_w,i32_w]
    rfl
   refine pure_ (i:=8) (N:=some 37) (v:=?_) (a':=?_) #[true,true,true,true,true,true,true,true,true,false,false,false] rfl rfl (any_of HT_.out (by kernel_rfl)) (fun _ _ _ h=>h) (Or.inl ⟨by rfl,?_⟩) ?_ ?_
   rotate_left
   ·intro w'
    go_simp
    with_reducible rfl
   rotate_left
   ·simp only [Act.put,s1_,s2_,s3_,i64_w,i32_w]
    rfl
   refine pure_ (i:=9) (N:=some 38) (v:=?_) (a':=?_) #[true,true,true,true,true,true,true,true,true,true,false,false] rfl rfl (any_of HT_.out (by kernel_rfl)) (fun _ _ _ h=>h) (Or.inl ⟨by rfl,?_⟩) ?_ ?_
   rotate_left
   ·intro w'
    go_simp
    with_reducible rfl
   rotate_left
   ·simp only [Act.put,s1_,s2_,s3_,i64_w,i32_w]
    rfl
   refine pure_ (i:=10) (N:=some 8) (v:=?_) (a':=?_) #[true,true,true,true,true,true,true,true,true,true,true,false] rfl rfl (any_of HT_.out (by kernel_rfl)) (fun _ _ _ h=>h) (Or.inl ⟨by rfl,?_⟩) ?_ ?_
   rotate_left
   ·intro w'
    go_simp
    with_reducible rfl
   rotate_left
   ·simp only [Act.put,s1_,s2_,s3_,i64_w,i32_w]
    rfl
   refine pure_ (i:=11) (N:=some 9) (v:=?_) (a':=?_) #[true,true,true,true,true,true,true,true,true,true,true,true] rfl rfl (any_of HT_.out (by kernel_rfl)) (fun _ _ _ h=>h) (Or.inl ⟨by rfl,?_⟩) ?_ ?_
   rotate_left
   ·intro w'
    go_simp
    with_reducible rfl
   rotate_left
   ·simp only [Act.put,s1_,s2_,s3_,i64_w,i32_w]
    rfl
   refine done_ (done_of HT_.out (by kernel_rfl)) ?_
   have hcz39_0 : w38.cell? ⟨gb1,0,none⟩ = some (.slice A0_0 l0_0.length c0_0):=(blk_cell BK1.1 0).trans rfl
   have hfz39_0:=blk_frozen BK1.1 0
   try go_wp2_with (first | ((with_reducible refine gate_callee (f:=10) rfl ?_);refine goesL_ (some 40) rfl rfl Try.func10 (by kernel_rfl) rfl #[.agg #[.slice A0_0 l0_0.length c0_0]] rfl lm_ ?_;(with_reducible refine (laws_toTree.calls k _ _ l0_0 t18 _ ?side1 ?side2 A22.1).mono ?_);(case side1=>exact cc_ (Kd.C_below HR0_0.1 HB.1));(case side2=>exact HC0_0.1);rintro e w40 ⟨v19,rfl,ho0,hb⟩;refine ⟨_,rfl,?_⟩;have n0_:=a0_ (Kd.R_elder' (rr_ HO7.1) (Kd.R_base ho0) hb);have n1_:=a0_ (Kd.R_below (rr_ HO10.1) hb);have n2_:=a0_ (Kd.R_below (rr_ HO16.1) hb);have n3_:=a0_ (Kd.R_lower (Kd.R_new' ho0 (Kd.R_lt (rr_ HO7.1))) (below_size hb_));have n4_:=a0_ (blk_below (bb_ BK1.1) hb);have n5_:=a0_ (blk_below (bb_ BK2.1) hb);have n6_:=a0_ (below_step hb_ hb);clear HO7 HO10;clear HO16 BK1;clear BK2 HB;have HO7:=n0_;have HO10:=n1_;have HO16:=n2_;have HO20:=n3_;have BK1:=n4_;have BK2:=n5_;have HB:=n6_;clear n0_ n1_ n2_ n3_ n4_ n5_ n6_;(try clear hb);(try clear hb2);(try clear hk);(try clear hi);(try clear ho0)) | ((with_reducible refine gate_dst (N:=10) rfl ?_);refine box_event ?hg (N:=10) ?hd (cs:=#[.slice none 0 0]) (t:=35) ?hr ?_;(case hd=>rfl);(case hg=>rfl);(case hr=>first | (go_simp;done) | (go_simp;rfl));intro gb21 hg w41 hbox hb;have n0_:=a0_ (Kd.R_below (rr_ HO7.1) hb);have n1_:=a0_ (Kd.R_below (rr_ HO10.1) hb);have n2_:=a0_ (Kd.R_below (rr_ HO16.1) hb);have n3_:=a0_ (Kd.R_below (rr_ HO20.1) hb);have n4_:=a0_ (blk_below (bb_ BK1.1) hb);have n5_:=a0_ (blk_below (bb_ BK2.1) hb);have n6_:=a0_ (below_step hb_ hb);have n7_:=a0_ (hbox);have n8_:=a0_ ((by rw [hg];exact (below_size hb_) : w.heap.size ≤ gb21));have n9_:=a0_ ((by rw [hg];exact (below_size hb_) : w.heap.size ≤ gb21));have n10_:=a0_ ((by rw [hg];exact Nat.ne_of_lt (blk_lt (bb_ BK1.1)) : gb1 ≠ gb21));have n11_:=a0_ ((by rw [hg];exact Nat.ne_of_gt (blk_lt (bb_ BK1.1)) : gb21 ≠ gb1));have n12_:=a0_ ((by rw [hg];exact Nat.ne_of_lt (blk_lt (bb_ BK2.1)) : gb2 ≠ gb21));have n13_:=a0_ ((by rw [hg];exact Nat.ne_of_gt (blk_lt (bb_ BK2.1)) : gb21 ≠ gb2));clear HO7 HO10;clear HO16 HO20;clear BK1 BK2 HB;have HO7:=n0_;have HO10:=n1_;have HO16:=n2_;have HO20:=n3_;have BK1:=n4_;have BK2:=n5_;have HB:=n6_;have BK21:=n7_;have GW21:=n8_;have GE21:=n9_;have NB1_21:=n10_;have NB21_1:=n11_;have NB2_21:=n12_;have NB21_2:=n13_;clear n0_ n1_ n2_ n3_ n4_ n5_ n6_ n7_ n8_ n9_ n10_ n11_ n12_ n13_;clear hb hbox hg;obtain ⟨Ao42,co42,eo42⟩:=Kd.R_slice HO20.1;subst eo42;have hnb43:=NB21_1.1;have hnc43:=NB1_21.1;have hnb44:=NB21_2.1;have hnc44:=NB2_21.1;have hcz45_0 : w41.cell? ⟨gb21,0,none⟩ = some (.slice none 0 0):=(blk_cell BK21.1 0).trans rfl;have hfz45_0:=blk_frozen BK21.1 0) | ((with_reducible refine gate_callee (f:=11) rfl ?_);refine goesL_ (some 42) rfl rfl Try.func11 (by kernel_rfl) rfl #[.slice A1 l1.length c1] rfl lm_ ?_;(with_reducible refine (laws_toExitS.calls k _ _ l1 t22 _ ?side1 ?side2 A23.1).mono ?_);(case side1=>exact Kd.C_below HR1.1 hb_);(case side2=>exact HC1.1);rintro e w46 ⟨v23,rfl,ho0,hb⟩;refine ⟨_,rfl,?_⟩;have n0_:=a0_ (Kd.R_below (by (with_reducible repeat (first | apply Kd.R_alloc | apply Kd.R_drewN | apply Kd.R_drew));exact (Kd.R_mono (Kd.R_far (p:=⟨gb21,0,none⟩) (Kd.R_types HO7.1 BK21.1 (by decide)) (fun _ hk=>hk.2) (.slice Ao42 t18.length co42)) (fun _ h_=>h_.1))) hb);have n1_:=a0_ (Kd.R_elder' (by (with_reducible repeat (first | apply Kd.R_alloc | apply Kd.R_drewN | apply Kd.R_drew));exact (Kd.R_mono (Kd.R_far (p:=⟨gb21,0,none⟩) (Kd.R_types HO10.1 BK21.1 (by decide)) (fun _ hk=>hk.2) (.slice Ao42 t18.length co42)) (fun _ h_=>h_.1))) (Kd.R_base ho0) hb);have n2_:=a0_ (Kd.R_elder' (by (with_reducible repeat (first | apply Kd.R_alloc | apply Kd.R_drewN | apply Kd.R_drew));exact (Kd.R_mono (Kd.R_far (p:=⟨gb21,0,none⟩) (Kd.R_types HO16.1 BK21.1 (by decide)) (fun _ hk=>hk.2) (.slice Ao42 t18.length co42)) (fun _ h_=>h_.1))) (Kd.R_base ho0) hb);have n3_:=a0_ (Kd.R_below (by (with_reducible repeat (first | apply Kd.R_alloc | apply Kd.R_drewN | apply Kd.R_drew));exact (Kd.R_mono (Kd.R_far (p:=⟨gb21,0,none⟩) (Kd.R_types HO20.1 BK21.1 (by decide)) (fun _ hk=>hk.2) (.slice Ao42 t18.length co42)) (fun _ h_=>h_.1))) hb);have n4_:=a0_ (Kd.R_lower (Kd.R_new' (Kd.R_new' ho0 (Kd.R_lt (by (with_reducible repeat (first | apply Kd.R_alloc | apply Kd.R_drewN | apply Kd.R_drew));exact (Kd.R_mono (Kd.R_far (p:=⟨gb21,0,none⟩) (Kd.R_types HO10.1 BK21.1 (by decide)) (fun _ hk=>hk.2) (.slice Ao42 t18.length co42)) (fun _ h_=>h_.1))))) (Kd.R_lt (by (with_reducible repeat (first | apply Kd.R_alloc | apply Kd.R_drewN | apply Kd.R_drew));exact (Kd.R_mono (Kd.R_far (p:=⟨gb21,0,none⟩) (Kd.R_types HO16.1 BK21.1 (by decide)) (fun _ hk=>hk.2) (.slice Ao42 t18.length co42)) (fun _ h_=>h_.1))))) (below_size hb_));have n5_:=a0_ (blk_below (g:=gb1) (o:=.cells #[.slice A0_0 l0_0.length c0_0] 24 (0,0)) (by (with_reducible repeat (first | refine blk_drewN ?_ _ | refine blk_drew ?_ | refine blk_alloc ?_ _));refine blk_far ?_ NB1_21.1 _;(with_reducible repeat (first | refine blk_drewN ?_ _ | refine blk_drew ?_ | refine blk_alloc ?_ _));exact BK1.1) hb);have n6_:=a0_ (blk_below (g:=gb2) (o:=.cells #[.int .i64 a2_0,.int .i64 a2_1,.int .i64 a2_2] 27 (0,0)) (by (with_reducible repeat (first | refine blk_drewN ?_ _ | refine blk_drew ?_ | refine blk_alloc ?_ _));refine blk_far ?_ NB2_21.1 _;(with_reducible repeat (first | refine blk_drewN ?_ _ | refine blk_drew ?_ | refine blk_alloc ?_ _));exact BK2.1) hb);have n7_:=a0_ (blk_below (g:=gb21) (o:=.cells #[.slice Ao42 t18.length co42] 35 (0,0)) (by (with_reducible repeat (first | refine blk_drewN ?_ _ | refine blk_drew ?_ | refine blk_alloc ?_ _));refine blk_put (cs:=#[.slice none 0 0]) ?_ 0 _ rfl;(with_reducible repeat (first | refine blk_drewN ?_ _ | refine blk_drew ?_ | refine blk_alloc ?_ _));exact BK21.1) hb);have n8_:=a0_ (below_step hb_ hb);clear HO7 HO10;clear HO16 HO20;clear BK1 BK2;clear BK21 HB;have HO7:=n0_;have HO10:=n1_;have HO16:=n2_;have HO20:=n3_;have HO24:=n4_;have BK1:=n5_;have BK2:=n6_;have BK21:=n7_;have HB:=n8_;clear n0_ n1_ n2_ n3_ n4_ n5_ n6_ n7_ n8_;(try clear hb);(try clear hb2);(try clear hk);(try clear hi);(try clear ho0)))
   have n0_:=a0_ (Kd.R_drew HO7.1)
   have n1_:=a0_ (Kd.R_drew HO10.1)
   have n2_:=a0_ (Kd.R_drew HO16.1)
   have n3_:=a0_ (Kd.R_drew HO20.1)
   have n4_:=a0_ (Kd.R_drew HO24.1)
   have n5_:=a0_ (blk_drew BK1.1)
   have n6_:=a0_ (blk_drew BK2.1)
   have n7_:=a0_ (blk_drew BK21.1)
   have n8_:=a0_ (below_drew1 HB.1)
   clear HO7
   clear HO10
   clear HO16
   clear HO20
   clear HO24
   clear BK1
   clear BK2
   clear BK21
   clear HB
   have HO7:=n0_
   have HO10:=n1_
   have HO16:=n2_
   have HO20:=n3_
   have HO24:=n4_
   have BK1:=n5_
   have BK2:=n6_
   have BK21:=n7_
   have HB:=n8_
   clear n0_ n1_ n2_ n3_ n4_ n5_ n6_ n7_ n8_
   refine start_ (n:=10) (S:=fun w'=>w'.cell? ⟨gb21,0,none⟩ = some (.slice Ao42 t18.length co42) ∧ w'.cell? ⟨gb2,0,none⟩ = some (.int .i64 a2_0) ∧ w'.cell? ⟨gb2,1,none⟩ = some (.int .i64 a2_1) ∧ w'.cell? ⟨gb2,2,none⟩ = some (.int .i64 a2_2)) (ds:=[]) #[false,false,false,false,false,false,false,false,false,false] (by kernel_rfl) rfl rfl ⟨(blk_cell BK21.1 0).trans rfl,(blk_cell BK2.1 0).trans rfl,(blk_cell BK2.1 1).trans rfl,(blk_cell BK2.1 2).trans rfl⟩ (fun hHeld=>?_);refine with_tabW laws_FnExactPushExit.tab11 laws_FnExactPushExit.bits11 (fun HT_ HW_=>?_)
   generalize w46.drew = w47 at HO7 HO10 HO16 HO20 HO24 BK1 BK2 BK21 HB hHeld ⊢
   refine pure_ (i:=1) (N:=some 45) (v:=?_) (a':=?_) #[false,true,false,false,false,false,false,false,false,false] rfl rfl (any_of HT_.out (by kernel_rfl)) (fun _ _ _ h=>h) (Or.inl ⟨by rfl,?_⟩) ?_ ?_
   rotate_left
   ·intro w'
    go_simp
    with_reducible rfl
   rotate_left
   ·simp only [Act.put,s1_,s2_,s3_,i64_w,i32_w]
    rfl
   refine take_ (i:=0) (N:=some 44) (v:=?_) (a':=?_) #[true,true,false,false,false,false,false,false,false,false] rfl rfl (take_ofW HT_.out HW_.out (by kernel_rfl)) (fun _ _ _ h=>h) (Or.inl ⟨by rfl,?_⟩) hHeld ?_ ?_
   rotate_left
   ·rintro w' ⟨s0,s1,s2,s3⟩
    go_simp
    with_reducible rfl
   rotate_left
   ·simp only [Act.put,s1_,s2_,s3_,i64_w,i32_w]
    rfl
   refine take_ (i:=2) (N:=some 46) (v:=?_) (a':=?_) #[true,true,true,false,false,false,false,false,false,false] rfl rfl (take_ofW HT_.out HW_.out (by kernel_rfl)) (fun _ _ _ h=>h) (Or.inl ⟨by rfl,?_⟩) hHeld ?_ ?_
   rotate_left
   ·rintro w' ⟨s0,s1,s2,s3⟩
    go_simp
    with_reducible rfl
   rotate_left
   ·simp only [Act.put,s1_,s2_,s3_,i64_w,i32_w]
    rfl
   refine one_ (i:=3) (N:=some 47) #[true,true,true,true,false,false,false,false,false,false] rfl rfl (one_of HT_.out (by kernel_rfl)) (by decide) (fun K hK=>?_)
   refine goes_ Try.func12 (by kernel_rfl) rfl #[.agg #[.int .i64 a2_0,.int .i64 a2_1,.int .i64 a2_2]] (by rfl) rfl rfl lm_ ?_
   with_reducible refine (laws_toExit.calls a2_0 a2_1 a2_2 t25 t26 t27 _ A24.1).mono ?_
   rintro e w48 ⟨rfl,hb⟩
   refine ⟨_,rfl,?_⟩
   have n0_:=a0_ (Kd.R_below (rr_ HO7.1) hb)
   have n1_:=a0_ (Kd.R_below (rr_ HO10.1) hb)
   have n2_:=a0_ (Kd.R_below (rr_ HO16.1) hb)
   have n3_:=a0_ (Kd.R_below (rr_ HO20.1) hb)
   have n4_:=a0_ (Kd.R_below (rr_ HO24.1) hb)
   have n5_:=a0_ (blk_below (bb_ BK1.1) hb)
   have n6_:=a0_ (blk_below (bb_ BK2.1) hb)
   have n7_:=a0_ (blk_below (bb_ BK21.1) hb)
   have n8_:=a0_ (below_step hb_ hb)
   clear HO7
   clear HO10
   clear HO16
   clear HO20
   clear HO24
   clear BK1
   clear BK2
   clear BK21
   clear HB
   have HO7:=n0_
   have HO10:=n1_
   have HO16:=n2_
   have HO20:=n3_
   have HO24:=n4_
   have BK1:=n5_
   have BK2:=n6_
   have BK21:=n7_
   have HB:=n8_
   clear n0_ n1_ n2_ n3_ n4_ n5_ n6_ n7_ n8_
   (try clear hb)
   (try clear hb2)
   (try clear hk)
   (try clear hi)
   obtain ⟨Ao49,co49,eo49⟩:=Kd.R_slice HO24.1
   (first | subst eo49 | (injection eo49 with f1_ f2_ f3_;have f4_:=f1_.symm;have f5_:=f3_.symm;clear f1_ f2_ f3_;subst f4_;subst f5_))
   refine hK.out _ _ ⟨(blk_cell BK21.1 0).trans rfl,(blk_cell BK2.1 0).trans rfl,(blk_cell BK2.1 1).trans rfl,(blk_cell BK2.1 2).trans rfl⟩ (fun hHeld=>?_)
   clear hK K
   refine norm_ (a':=?_) ?_ ?_
   rotate_left
   ·show Act.put _ (some 47) _ = _
    simp only [Act.put,s1_,s2_,s3_,i64_w,i32_w]
    rfl
   refine one_ (i:=4) (N:=some 48) #[true,true,true,true,true,false,false,false,false,false] rfl rfl (one_of HT_.out (by kernel_rfl)) (by decide) (fun K hK=>?_)
   refine goes_ Try.func13 (by kernel_rfl) rfl #[.agg #[.slice Ao42 t18.length co42],.slice Ao49 t22.length co49,.agg #[.int .i64 t25,.int .i64 t26,.int .i64 t27]] (by rfl) rfl rfl lm_ ?_
   with_reducible refine (impl_PushExit.calls _ _ t18 _ _ t22 t25 t26 t27 t28 t31 _ ?side1 ?side2 ?side3 ?side4 A25.1).mono ?_
   (case side1=>repeat (first | exact (Kd.R_reads' HO20.1).2.2 | (with_reducible refine Kd.C_alloc ?_ _) | (with_reducible refine Kd.C_drewN ?_ _) | (with_reducible refine Kd.C_drew ?_)))
   (case side2=>exact (Kd.R_reads' HO20.1).2.1)
   (case side3=>repeat (first | exact (Kd.R_reads' HO24.1).2.2 | (with_reducible refine Kd.C_alloc ?_ _) | (with_reducible refine Kd.C_drewN ?_ _) | (with_reducible refine Kd.C_drew ?_)))
   (case side4=>exact (Kd.R_reads' HO24.1).2.1)
   rintro e w50 ⟨v29,rfl,ho0,hb⟩
   refine ⟨_,rfl,?_⟩
   have n0_:=a0_ (Kd.R_below (rr_ HO7.1) hb)
   have n1_:=a0_ (Kd.R_elder' (rr_ HO10.1) (Kd.R_base ho0) hb)
   have n2_:=a0_ (Kd.R_elder' (rr_ HO16.1) (Kd.R_base ho0) hb)
   have n3_:=a0_ (Kd.R_below (rr_ HO20.1) hb)
   have n4_:=a0_ (Kd.R_elder' (rr_ HO24.1) (Kd.R_base ho0) hb)
   have n5_:=a0_ (Kd.R_lower (Kd.R_new' (Kd.R_new' (Kd.R_new' ho0 (Kd.R_lt (rr_ HO10.1))) (Kd.R_lt (rr_ HO16.1))) (Kd.R_lt (rr_ HO24.1))) (below_size hb_))
   have n6_:=a0_ (blk_below (bb_ BK1.1) hb)
   have n7_:=a0_ (blk_below (bb_ BK2.1) hb)
   have n8_:=a0_ (blk_below (bb_ BK21.1) hb)
   have n9_:=a0_ (below_step hb_ hb)
   clear HO7
   clear HO10
   clear HO16
   clear HO20
   clear HO24
   clear BK1
   clear BK2
   clear BK21
   clear HB
   have HO7:=n0_
   have HO10:=n1_
   have HO16:=n2_
   have HO20:=n3_
   have HO24:=n4_
   have HO30:=n5_
   have BK1:=n6_
   have BK2:=n7_
   have BK21:=n8_
   have HB:=n9_
   clear n0_ n1_ n2_ n3_ n4_ n5_ n6_ n7_ n8_ n9_
   (try clear hb)
   (try clear hb2)
   (try clear hk)
   (try clear hi)
   (try clear ho0)
   refine hK.out _ _ ⟨(blk_cell BK21.1 0).trans rfl,(blk_cell BK2.1 0).trans rfl,(blk_cell BK2.1 1).trans rfl,(blk_cell BK2.1 2).trans rfl⟩ (fun hHeld=>?_)
   clear hK K
   refine norm_ (a':=?_) ?_ ?_
   rotate_left
   ·show Act.put _ (some 48) _ = _
    simp only [Act.put,s1_,s2_,s3_,i64_w,i32_w]
    rfl
   refine pure_ (i:=5) (N:=some 43) (v:=?_) (a':=?_) #[true,true,true,true,true,true,false,false,false,false] rfl rfl (any_of HT_.out (by kernel_rfl)) (fun _ _ _ h=>h) (Or.inl ⟨by rfl,?_⟩) ?_ ?_
   rotate_left
   ·intro w'
    go_simp
    with_reducible rfl
   rotate_left
   ·simp only [Act.put,s1_,s2_,s3_,i64_w,i32_w]
    rfl
   refine pure_ (i:=6) (N:=some 49) (v:=?_) (a':=?_) #[true,true,true,true,true,true,true,false,false,false] rfl rfl (any_of HT_.out (by kernel_rfl)) (fun _ _ _ h=>h) (Or.inl ⟨by rfl,?_⟩) ?_ ?_
   rotate_left
   ·intro w'
    go_simp
    with_reducible rfl
   rotate_left
   ·simp only [Act.put,s1_,s2_,s3_,i64_w,i32_w]
    rfl
   refine pure_ (i:=7) (N:=some 50) (v:=?_) (a':=?_) #[true,true,true,true,true,true,true,true,false,false] rfl rfl (any_of HT_.out (by kernel_rfl)) (fun _ _ _ h=>h) (Or.inl ⟨by rfl,?_⟩) ?_ ?_
   rotate_left
   ·intro w'
    go_simp
    with_reducible rfl
   rotate_left
   ·simp only [Act.put,s1_,s2_,s3_,i64_w,i32_w]
    rfl
   refine pure_ (i:=8) (N:=some 12) (v:=?_) (a':=?_) #[true,true,true,true,true,true,true,true,true,false] rfl rfl (any_of HT_.out (by kernel_rfl)) (fun _ _ _ h=>h) (Or.inl ⟨by rfl,?_⟩) ?_ ?_
   rotate_left
   ·intro w'
    go_simp
    with_reducible rfl
   rotate_left
   ·simp only [Act.put,s1_,s2_,s3_,i64_w,i32_w]
    rfl
   refine pure_ (i:=9) (N:=some 13) (v:=?_) (a':=?_) #[true,true,true,true,true,true,true,true,true,true] rfl rfl (any_of HT_.out (by kernel_rfl)) (fun _ _ _ h=>h) (Or.inl ⟨by rfl,?_⟩) ?_ ?_
   rotate_left
   ·intro w'
    go_simp
    with_reducible rfl
   rotate_left
   ·simp only [Act.put,s1_,s2_,s3_,i64_w,i32_w]
    rfl
   refine done_ (done_of HT_.out (by kernel_rfl)) ?_
   go_upto_region 12 with (fail)
   go_cut [59] (fun v59 wc=>∃ (kq : Nat) (x59_25 : Bool),v59 = .bool x59_25 ∧ Aside0 (laws_FnExactPushExit.j0 kq l1 t14 t17 t22 t28 t31 x59_25 l0_0 a2_0 a2_1 a2_2 t18 = some r) ∧ Aside0 (kq ≤ k) ∧ Aside0 (Kd.R k38 38 wc w.heap.size (fun k_=>some k_ ≠ ((.slice Ao49 t22.length co49) : Value).ownBlock ∧ some k_ ≠ (v29 : Value).ownBlock) v15 t14) ∧ Aside0 (Kd.R k38 38 wc w.heap.size (fun k_=>some k_ ≠ (v15 : Value).ownBlock ∧ some k_ ≠ (v29 : Value).ownBlock) (.slice Ao49 t22.length co49) t22) ∧ Aside0 (Kd.R k38 38 wc w.heap.size (fun k_=>some k_ ≠ (v15 : Value).ownBlock ∧ some k_ ≠ ((.slice Ao49 t22.length co49) : Value).ownBlock) v29 t28) ∧ Aside0 (Kd.R k76 76 wc w.heap.size (fun _=>True) (.slice Ao42 t18.length co42) t18) ∧ Aside0 (wc.heap[gb1]? = some (.cells #[(.slice A0_0 l0_0.length c0_0)] 24 (0,0))) ∧ Aside0 (wc.heap[gb2]? = some (.cells #[.int .i64 a2_0,.int .i64 a2_1,.int .i64 a2_2] 27 (0,0))) ∧ Aside0 (wc.heap[gb21]? = some (.cells #[(.slice Ao42 t18.length co42)] 35 (0,0))) ∧ Aside0 (Below w.heap.size w wc))
   case first =>
    have H:=HC26.1
    clear HC26
    replace H:=Option.bind_eq_some_iff.mp H
    obtain ⟨t32,A510,H⟩:=H
    replace H : (if t32 = true then (laws_FnExactPushExit.j0 k l1 t14 t17 t22 t28 t31 (t31 != t17) l0_0 a2_0 a2_1 a2_2 t18) else (laws_FnExactPushExit.j0 k l1 t14 t17 t22 t28 t31 true l0_0 a2_0 a2_1 a2_2 t18)) = some r:=H
    have A51:=a0_ A510
    clear A510
    by_cases c52 : t32 = true
    ·subst c52
     have H1 : (laws_FnExactPushExit.j0 k l1 t14 t17 t22 t28 t31 (t31 != t17) l0_0 a2_0 a2_1 a2_2 t18) = some r:=by rw [if_pos rfl] at H;exact H
     clear H
     have H:=H1
     clear H1
     have H':=a0_ H
     clear H
     obtain ⟨Ao53,co53,eo53⟩:=Kd.R_slice HO30.1
     subst eo53
     obtain ⟨Ao54,co54,eo54⟩:=Kd.R_slice HO16.1
     subst eo54
     go_wp2_with (first | ((with_reducible refine gate_callee (f:=14) rfl ?_);refine goesL_ (some 53) rfl rfl Try.func14 (by kernel_rfl) rfl #[.slice Ao53 t28.length co53,.slice Ao54 t14.length co54] rfl lm_ ?_;(with_reducible refine (laws_eqExitS.calls k _ _ t28 _ _ t14 true _ ?side1 ?side2 ?side3 ?side4 A51.1).mono ?_);(case side1=>repeat (first | exact (Kd.R_reads' HO30.1).2.2 | (with_reducible refine Kd.C_alloc ?_ _) | (with_reducible refine Kd.C_drewN ?_ _) | (with_reducible refine Kd.C_drew ?_)));(case side2=>exact (Kd.R_reads' HO30.1).2.1);(case side3=>repeat (first | exact (Kd.R_reads' HO16.1).2.2 | (with_reducible refine Kd.C_alloc ?_ _) | (with_reducible refine Kd.C_drewN ?_ _) | (with_reducible refine Kd.C_drew ?_)));(case side4=>exact (Kd.R_reads' HO16.1).2.1);rintro e w55 ⟨rfl,hb⟩;refine ⟨_,rfl,?_⟩;have n0_:=a0_ (Kd.R_below (rr_ HO7.1) hb);have n1_:=a0_ (Kd.R_below (rr_ HO10.1) hb);have n2_:=a0_ (Kd.R_below (rr_ HO16.1) hb);have n3_:=a0_ (Kd.R_below (rr_ HO20.1) hb);have n4_:=a0_ (Kd.R_below (rr_ HO24.1) hb);have n5_:=a0_ (Kd.R_below (rr_ HO30.1) hb);have n6_:=a0_ (blk_below (bb_ BK1.1) hb);have n7_:=a0_ (blk_below (bb_ BK2.1) hb);have n8_:=a0_ (blk_below (bb_ BK21.1) hb);have n9_:=a0_ (below_step hb_ hb);clear HO7 HO10;clear HO16 HO20;clear HO24 HO30;clear BK1 BK2;clear BK21 HB;have HO7:=n0_;have HO10:=n1_;have HO16:=n2_;have HO20:=n3_;have HO24:=n4_;have HO30:=n5_;have BK1:=n6_;have BK2:=n7_;have BK21:=n8_;have HB:=n9_;clear n0_ n1_ n2_ n3_ n4_ n5_ n6_ n7_ n8_ n9_;(try clear hb);(try clear hb2);(try clear hk);(try clear hi)))
     go_meet
     case rel=>exact ⟨_,((t31 != t17)),(by first | rfl | (simp;done) | (simp [*];done)),H',⟨by first | omega | exact Nat.le_refl _⟩,⟨by (with_reducible repeat (first | apply Kd.R_alloc | apply Kd.R_drewN | apply Kd.R_drew));exact Kd.R_mono HO16.1 (fun _ hk=>⟨hk.1.2,hk.2⟩)⟩,⟨by (with_reducible repeat (first | apply Kd.R_alloc | apply Kd.R_drewN | apply Kd.R_drew));exact Kd.R_mono HO24.1 (fun _ hk=>⟨hk.1.2,hk.2⟩)⟩,⟨by (with_reducible repeat (first | apply Kd.R_alloc | apply Kd.R_drewN | apply Kd.R_drew));exact Kd.R_mono HO30.1 (fun _ hk=>⟨hk.1.2,hk.2⟩)⟩,⟨by (with_reducible repeat (first | apply Kd.R_alloc | apply Kd.R_drewN | apply Kd.R_drew));exact Kd.R_mono HO20.1 (fun _ hk=>trivial)⟩,⟨by (with_reducible repeat (first | refine blk_drewN ?_ _ | refine blk_drew ?_ | refine blk_alloc ?_ _));exact BK1.1⟩,⟨by (with_reducible repeat (first | refine blk_drewN ?_ _ | refine blk_drew ?_ | refine blk_alloc ?_ _));exact BK2.1⟩,⟨by (with_reducible repeat (first | refine blk_drewN ?_ _ | refine blk_drew ?_ | refine blk_alloc ?_ _));exact BK21.1⟩,⟨hb_⟩⟩
    ·replace c52:=Bool.eq_false_iff.mpr c52
     subst c52
     have H1 : (laws_FnExactPushExit.j0 k l1 t14 t17 t22 t28 t31 true l0_0 a2_0 a2_1 a2_2 t18) = some r:=by rw [if_neg (show ¬ (false = true) by decide)] at H;exact H
     clear H
     have H:=H1
     clear H1
     have H':=a0_ H
     clear H
     obtain ⟨Ao56,co56,eo56⟩:=Kd.R_slice HO30.1
     subst eo56
     obtain ⟨Ao57,co57,eo57⟩:=Kd.R_slice HO16.1
     subst eo57
     go_wp2_with (first | ((with_reducible refine gate_callee (f:=14) rfl ?_);refine goesL_ (some 53) rfl rfl Try.func14 (by kernel_rfl) rfl #[.slice Ao56 t28.length co56,.slice Ao57 t14.length co57] rfl lm_ ?_;(with_reducible refine (laws_eqExitS.calls k _ _ t28 _ _ t14 false _ ?side1 ?side2 ?side3 ?side4 A51.1).mono ?_);(case side1=>repeat (first | exact (Kd.R_reads' HO30.1).2.2 | (with_reducible refine Kd.C_alloc ?_ _) | (with_reducible refine Kd.C_drewN ?_ _) | (with_reducible refine Kd.C_drew ?_)));(case side2=>exact (Kd.R_reads' HO30.1).2.1);(case side3=>repeat (first | exact (Kd.R_reads' HO16.1).2.2 | (with_reducible refine Kd.C_alloc ?_ _) | (with_reducible refine Kd.C_drewN ?_ _) | (with_reducible refine Kd.C_drew ?_)));(case side4=>exact (Kd.R_reads' HO16.1).2.1);rintro e w58 ⟨rfl,hb⟩;refine ⟨_,rfl,?_⟩;have n0_:=a0_ (Kd.R_below (rr_ HO7.1) hb);have n1_:=a0_ (Kd.R_below (rr_ HO10.1) hb);have n2_:=a0_ (Kd.R_below (rr_ HO16.1) hb);have n3_:=a0_ (Kd.R_below (rr_ HO20.1) hb);have n4_:=a0_ (Kd.R_below (rr_ HO24.1) hb);have n5_:=a0_ (Kd.R_below (rr_ HO30.1) hb);have n6_:=a0_ (blk_below (bb_ BK1.1) hb);have n7_:=a0_ (blk_below (bb_ BK2.1) hb);have n8_:=a0_ (blk_below (bb_ BK21.1) hb);have n9_:=a0_ (below_step hb_ hb);clear HO7 HO10;clear HO16 HO20;clear HO24 HO30;clear BK1 BK2;clear BK21 HB;have HO7:=n0_;have HO10:=n1_;have HO16:=n2_;have HO20:=n3_;have HO24:=n4_;have HO30:=n5_;have BK1:=n6_;have BK2:=n7_;have BK21:=n8_;have HB:=n9_;clear n0_ n1_ n2_ n3_ n4_ n5_ n6_ n7_ n8_ n9_;(try clear hb);(try clear hb2);(try clear hk);(try clear hi)))
     go_meet
     case rel=>exact ⟨_,(true),(by first | rfl | (simp;done) | (simp [*];done)),H',⟨by first | omega | exact Nat.le_refl _⟩,⟨by (with_reducible repeat (first | apply Kd.R_alloc | apply Kd.R_drewN | apply Kd.R_drew));exact Kd.R_mono HO16.1 (fun _ hk=>⟨hk.1.2,hk.2⟩)⟩,⟨by (with_reducible repeat (first | apply Kd.R_alloc | apply Kd.R_drewN | apply Kd.R_drew));exact Kd.R_mono HO24.1 (fun _ hk=>⟨hk.1.2,hk.2⟩)⟩,⟨by (with_reducible repeat (first | apply Kd.R_alloc | apply Kd.R_drewN | apply Kd.R_drew));exact Kd.R_mono HO30.1 (fun _ hk=>⟨hk.1.2,hk.2⟩)⟩,⟨by (with_reducible repeat (first | apply Kd.R_alloc | apply Kd.R_drewN | apply Kd.R_drew));exact Kd.R_mono HO20.1 (fun _ hk=>trivial)⟩,⟨by (with_reducible repeat (first | refine blk_drewN ?_ _ | refine blk_drew ?_ | refine blk_alloc ?_ _));exact BK1.1⟩,⟨by (with_reducible repeat (first | refine blk_drewN ?_ _ | refine blk_drew ?_ | refine blk_alloc ?_ _));exact BK2.1⟩,⟨by (with_reducible repeat (first | refine blk_drewN ?_ _ | refine blk_drew ?_ | refine blk_alloc ?_ _));exact BK21.1⟩,⟨hb_⟩⟩
   case rest =>
    clear HC26
    try clear c1
    try clear c2
    try clear p2
    try clear c3
    try clear c4
    try clear c5
    try clear c5b0
    try clear c7
    try clear c8
    try clear c9
    try clear c10
    try clear c11
    try clear c12
    try clear c12b0
    try clear c13
    try clear c14
    try clear c15
    try clear c29
    try clear c43
    try clear c44
    try clear c52
    try clear hcz16_0
    try clear hcz30_0
    try clear hcz39_0
    try clear hcz45_0
    try clear hcz9_0
    try clear hfz16_0
    try clear hfz30_0
    try clear hfz39_0
    try clear hfz45_0
    try clear hfz9_0
    obtain ⟨kq,x59_25,rfl,HA,HJ25,HO_8,HO_11,HO_12,HO_22000,BK1,BK2,BK21,HB⟩:=hcut
    cases kq with
    | zero=>exact absurd HA.out (by simp [laws_FnExactPushExit.j0])
    | succ kj25 =>
     have H:=HA.out
     clear HA
     simp only [laws_FnExactPushExit.j0] at H
     by_cases c59 : x59_25 = true
     ·subst c59
      have H1 : (some false) = some r:=by rw [if_pos rfl] at H;exact H
      clear H
      have H:=H1
      clear H1
      obtain rfl:=Option.some.inj H
      go_wp2
      go_ret
      exact ⟨by first | rfl | (simp [errW_none,errW_some] <;> rfl) | (simp [*,errW_none,errW_some] <;> rfl),hb_⟩
     ·replace c59:=Bool.eq_false_iff.mpr c59
      subst c59
      have H1 : ((laws_toTree.f kj25 l0_0).bind fun t33=>((laws_eqTree.f kj25 t18 t33).bind fun t36=>(if t36 = true then ((laws_toExitS.f kj25 l1).bind fun t37=>((laws_eqExitS.f kj25 t22 t37).bind fun t40=>(if t40 = true then ((laws_markTree.f kj25 t18 1).bind fun bt41=>((laws_markExitS.f kj25 t22 bt41.1).bind fun bt43=>(if bt43.1 < 0 then (laws_FnExactPushExit.j1 kj25 l1 t14 t17 t28 true l0_0 a2_0 a2_1 a2_2) else ((laws_eqExitS.f kj25 t28 t14).bind fun t45=>(if t45 = true then (laws_FnExactPushExit.j1 kj25 l1 t14 t17 t28 (t31 != t17) l0_0 a2_0 a2_1 a2_2) else (laws_FnExactPushExit.j1 kj25 l1 t14 t17 t28 true l0_0 a2_0 a2_1 a2_2)))))) else (some false)))) else (some false)))) = some r:=by rw [if_neg (show ¬ (false = true) by decide)] at H;exact H
      clear H
      have H:=H1
      clear H1
      replace H:=Option.bind_eq_some_iff.mp H
      obtain ⟨t33,A600,H⟩:=H
      replace H : ((laws_eqTree.f kj25 t18 t33).bind fun t36=>(if t36 = true then ((laws_toExitS.f kj25 l1).bind fun t37=>((laws_eqExitS.f kj25 t22 t37).bind fun t40=>(if t40 = true then ((laws_markTree.f kj25 t18 1).bind fun bt41=>((laws_markExitS.f kj25 t22 bt41.1).bind fun bt43=>(if bt43.1 < 0 then (laws_FnExactPushExit.j1 kj25 l1 t14 t17 t28 true l0_0 a2_0 a2_1 a2_2) else ((laws_eqExitS.f kj25 t28 t14).bind fun t45=>(if t45 = true then (laws_FnExactPushExit.j1 kj25 l1 t14 t17 t28 (t31 != t17) l0_0 a2_0 a2_1 a2_2) else (laws_FnExactPushExit.j1 kj25 l1 t14 t17 t28 true l0_0 a2_0 a2_1 a2_2)))))) else (some false)))) else (some false))) = some r:=H
      have A60:=a0_ A600
      clear A600
      replace H:=Option.bind_eq_some_iff.mp H
      obtain ⟨t36,A610,H⟩:=H
      replace H : (if t36 = true then ((laws_toExitS.f kj25 l1).bind fun t37=>((laws_eqExitS.f kj25 t22 t37).bind fun t40=>(if t40 = true then ((laws_markTree.f kj25 t18 1).bind fun bt41=>((laws_markExitS.f kj25 t22 bt41.1).bind fun bt43=>(if bt43.1 < 0 then (laws_FnExactPushExit.j1 kj25 l1 t14 t17 t28 true l0_0 a2_0 a2_1 a2_2) else ((laws_eqExitS.f kj25 t28 t14).bind fun t45=>(if t45 = true then (laws_FnExactPushExit.j1 kj25 l1 t14 t17 t28 (t31 != t17) l0_0 a2_0 a2_1 a2_2) else (laws_FnExactPushExit.j1 kj25 l1 t14 t17 t28 true l0_0 a2_0 a2_1 a2_2)))))) else (some false)))) else (some false)) = some r:=H
      have A61:=a0_ A610
      clear A610
      by_cases c62 : t36 = true
      ·subst c62
       have H1 : ((laws_toExitS.f kj25 l1).bind fun t37=>((laws_eqExitS.f kj25 t22 t37).bind fun t40=>(if t40 = true then ((laws_markTree.f kj25 t18 1).bind fun bt41=>((laws_markExitS.f kj25 t22 bt41.1).bind fun bt43=>(if bt43.1 < 0 then (laws_FnExactPushExit.j1 kj25 l1 t14 t17 t28 true l0_0 a2_0 a2_1 a2_2) else ((laws_eqExitS.f kj25 t28 t14).bind fun t45=>(if t45 = true then (laws_FnExactPushExit.j1 kj25 l1 t14 t17 t28 (t31 != t17) l0_0 a2_0 a2_1 a2_2) else (laws_FnExactPushExit.j1 kj25 l1 t14 t17 t28 true l0_0 a2_0 a2_1 a2_2)))))) else (some false)))) = some r:=by rw [if_pos rfl] at H;exact H
       clear H
       have H:=H1
       clear H1
       replace H:=Option.bind_eq_some_iff.mp H
       obtain ⟨t37,A630,H⟩:=H
       replace H : ((laws_eqExitS.f kj25 t22 t37).bind fun t40=>(if t40 = true then ((laws_markTree.f kj25 t18 1).bind fun bt41=>((laws_markExitS.f kj25 t22 bt41.1).bind fun bt43=>(if bt43.1 < 0 then (laws_FnExactPushExit.j1 kj25 l1 t14 t17 t28 true l0_0 a2_0 a2_1 a2_2) else ((laws_eqExitS.f kj25 t28 t14).bind fun t45=>(if t45 = true then (laws_FnExactPushExit.j1 kj25 l1 t14 t17 t28 (t31 != t17) l0_0 a2_0 a2_1 a2_2) else (laws_FnExactPushExit.j1 kj25 l1 t14 t17 t28 true l0_0 a2_0 a2_1 a2_2)))))) else (some false))) = some r:=H
       have A63:=a0_ A630
       clear A630
       replace H:=Option.bind_eq_some_iff.mp H
       obtain ⟨t40,A640,H⟩:=H
       replace H : (if t40 = true then ((laws_markTree.f kj25 t18 1).bind fun bt41=>((laws_markExitS.f kj25 t22 bt41.1).bind fun bt43=>(if bt43.1 < 0 then (laws_FnExactPushExit.j1 kj25 l1 t14 t17 t28 true l0_0 a2_0 a2_1 a2_2) else ((laws_eqExitS.f kj25 t28 t14).bind fun t45=>(if t45 = true then (laws_FnExactPushExit.j1 kj25 l1 t14 t17 t28 (t31 != t17) l0_0 a2_0 a2_1 a2_2) else (laws_FnExactPushExit.j1 kj25 l1 t14 t17 t28 true l0_0 a2_0 a2_1 a2_2)))))) else (some false)) = some r:=H
       have A64:=a0_ A640
       clear A640
       by_cases c65 : t40 = true
       ·subst c65
        have H1 : ((laws_markTree.f kj25 t18 1).bind fun bt41=>((laws_markExitS.f kj25 t22 bt41.1).bind fun bt43=>(if bt43.1 < 0 then (laws_FnExactPushExit.j1 kj25 l1 t14 t17 t28 true l0_0 a2_0 a2_1 a2_2) else ((laws_eqExitS.f kj25 t28 t14).bind fun t45=>(if t45 = true then (laws_FnExactPushExit.j1 kj25 l1 t14 t17 t28 (t31 != t17) l0_0 a2_0 a2_1 a2_2) else (laws_FnExactPushExit.j1 kj25 l1 t14 t17 t28 true l0_0 a2_0 a2_1 a2_2)))))) = some r:=by rw [if_pos rfl] at H;exact H
        clear H
        have H:=H1
        clear H1
        replace H:=Option.bind_eq_some_iff.mp H
        obtain ⟨⟨t41,t42⟩,A660,H⟩:=H
        replace H : ((laws_markExitS.f kj25 t22 t41).bind fun bt43=>(if bt43.1 < 0 then (laws_FnExactPushExit.j1 kj25 l1 t14 t17 t28 true l0_0 a2_0 a2_1 a2_2) else ((laws_eqExitS.f kj25 t28 t14).bind fun t45=>(if t45 = true then (laws_FnExactPushExit.j1 kj25 l1 t14 t17 t28 (t31 != t17) l0_0 a2_0 a2_1 a2_2) else (laws_FnExactPushExit.j1 kj25 l1 t14 t17 t28 true l0_0 a2_0 a2_1 a2_2))))) = some r:=H
        have A66:=a0_ A660
        clear A660
        replace H:=Option.bind_eq_some_iff.mp H
        obtain ⟨⟨t43,t44⟩,A670,H⟩:=H
        replace H : (if t43 < 0 then (laws_FnExactPushExit.j1 kj25 l1 t14 t17 t28 true l0_0 a2_0 a2_1 a2_2) else ((laws_eqExitS.f kj25 t28 t14).bind fun t45=>(if t45 = true then (laws_FnExactPushExit.j1 kj25 l1 t14 t17 t28 (t31 != t17) l0_0 a2_0 a2_1 a2_2) else (laws_FnExactPushExit.j1 kj25 l1 t14 t17 t28 true l0_0 a2_0 a2_1 a2_2)))) = some r:=H
        have A67:=a0_ A670
        clear A670
        have HC68:=a0_ H
        clear H
        try go_wp2
        have n0_:=a0_ (Kd.R_drew HO_8.1)
        have n1_:=a0_ (Kd.R_drew HO_11.1)
        have n2_:=a0_ (Kd.R_drew HO_12.1)
        have n3_:=a0_ (Kd.R_drew HO_22000.1)
        have n4_:=a0_ (blk_drew BK1.1)
        have n5_:=a0_ (blk_drew BK2.1)
        have n6_:=a0_ (blk_drew BK21.1)
        have n7_:=a0_ (below_drew1 HB.1)
        clear HO_8
        clear HO_11
        clear HO_12
        clear HO_22000
        clear BK1
        clear BK2
        clear BK21
        clear HB
        have HO_8:=n0_
        have HO_11:=n1_
        have HO_12:=n2_
        have HO_22000:=n3_
        have BK1:=n4_
        have BK2:=n5_
        have BK21:=n6_
        have HB:=n7_
        clear n0_ n1_ n2_ n3_ n4_ n5_ n6_ n7_
        refine start_ (n:=5) (S:=fun w'=>w'.cell? ⟨gb21,0,none⟩ = some (.slice Ao42 t18.length co42) ∧ w'.cell? ⟨gb1,0,none⟩ = some (.slice A0_0 l0_0.length c0_0)) (ds:=[]) #[false,false,false,false,false] (by kernel_rfl) rfl rfl ⟨(blk_cell BK21.1 0).trans rfl,(blk_cell BK1.1 0).trans rfl⟩ (fun hHeld=>?_)
        generalize wc.drew = w69 at HO_8 HO_11 HO_12 HO_22000 BK1 BK2 BK21 HB hHeld ⊢
        refine take_ (i:=0) (N:=some 60) (v:=?_) (a':=?_) #[true,false,false,false,false] rfl rfl (by kernel_rfl) (fun _ _ _ h=>h) (Or.inl ⟨by rfl,?_⟩) hHeld ?_ ?_
        rotate_left
        ·rintro w' ⟨s0,s1⟩
         go_simp
         with_reducible rfl
        rotate_left
        ·simp only [Act.put,s1_,s2_,s3_,i64_w,i32_w]
         rfl
        refine take_ (i:=1) (N:=some 61) (v:=?_) (a':=?_) #[true,true,false,false,false] rfl rfl (by kernel_rfl) (fun _ _ _ h=>h) (Or.inl ⟨by rfl,?_⟩) hHeld ?_ ?_
        rotate_left
        ·rintro w' ⟨s0,s1⟩
         go_simp
         with_reducible rfl
        rotate_left
        ·simp only [Act.put,s1_,s2_,s3_,i64_w,i32_w]
         rfl
        refine one_ (i:=2) (N:=some 62) #[true,true,true,false,false] rfl rfl (by kernel_rfl) (by decide) (fun K hK=>?_)
        refine goes_ Try.func10 (by kernel_rfl) rfl #[.agg #[.slice A0_0 l0_0.length c0_0]] (by rfl) rfl rfl lm_ ?_
        with_reducible refine (laws_toTree.calls kj25 _ _ l0_0 t33 _ ?side1 ?side2 A60.1).mono ?_
        (case side1=>exact cc_ (Kd.C_below HR0_0.1 HB.1))
        (case side2=>exact HC0_0.1)
        rintro e w70 ⟨v34,rfl,ho0,hb⟩
        refine ⟨_,rfl,?_⟩
        have n0_:=a0_ (Kd.R_below (rr_ HO_8.1) hb)
        have n1_:=a0_ (Kd.R_below (rr_ HO_11.1) hb)
        have n2_:=a0_ (Kd.R_below (rr_ HO_12.1) hb)
        have n3_:=a0_ (Kd.R_elder' (rr_ HO_22000.1) (Kd.R_base ho0) hb)
        have n4_:=a0_ (Kd.R_lower (Kd.R_new' ho0 (Kd.R_lt (rr_ HO_22000.1))) (below_size hb_))
        have n5_:=a0_ (blk_below (bb_ BK1.1) hb)
        have n6_:=a0_ (blk_below (bb_ BK2.1) hb)
        have n7_:=a0_ (blk_below (bb_ BK21.1) hb)
        have n8_:=a0_ (below_step hb_ hb)
        clear HO_8
        clear HO_11
        clear HO_12
        clear HO_22000
        clear BK1
        clear BK2
        clear BK21
        clear HB
        have HO_8:=n0_
        have HO_11:=n1_
        have HO_12:=n2_
        have HO_22000:=n3_
        have HO35:=n4_
        have BK1:=n5_
        have BK2:=n6_
        have BK21:=n7_
        have HB:=n8_
        clear n0_ n1_ n2_ n3_ n4_ n5_ n6_ n7_ n8_
        (try clear hb)
        (try clear hb2)
        (try clear hk)
        (try clear hi)
        (try clear ho0)
        obtain ⟨Ao71,co71,eo71⟩:=Kd.R_slice HO35.1
        (first | subst eo71 | (injection eo71 with f1_ f2_ f3_;have f4_:=f1_.symm;have f5_:=f3_.symm;clear f1_ f2_ f3_;subst f4_;subst f5_))
        refine hK.out _ _ ⟨(blk_cell BK21.1 0).trans rfl,(blk_cell BK1.1 0).trans rfl⟩ (fun hHeld=>?_)
        clear hK K
        refine norm_ (a':=?_) ?_ ?_
        rotate_left
        ·show Act.put _ (some 62) _ = _
         simp only [Act.put,s1_,s2_,s3_,i64_w,i32_w]
         rfl
        refine one_ (i:=3) (N:=some 63) #[true,true,true,true,false] rfl rfl (by kernel_rfl) (by decide) (fun K hK=>?_)
        refine goes_ Try.func15 (by kernel_rfl) rfl #[.agg #[.slice Ao42 t18.length co42],.agg #[.slice Ao71 t33.length co71]] (by rfl) rfl rfl lm_ ?_
        with_reducible refine (laws_eqTree.calls kj25 _ _ t18 _ _ t33 true _ ?side1 ?side2 ?side3 ?side4 A61.1).mono ?_
        (case side1=>repeat (first | exact (Kd.R_reads' HO_22000.1).2.2 | (with_reducible refine Kd.C_alloc ?_ _) | (with_reducible refine Kd.C_drewN ?_ _) | (with_reducible refine Kd.C_drew ?_)))
        (case side2=>exact (Kd.R_reads' HO_22000.1).2.1)
        (case side3=>repeat (first | exact (Kd.R_reads' HO35.1).2.2 | (with_reducible refine Kd.C_alloc ?_ _) | (with_reducible refine Kd.C_drewN ?_ _) | (with_reducible refine Kd.C_drew ?_)))
        (case side4=>exact (Kd.R_reads' HO35.1).2.1)
        rintro e w72 ⟨rfl,hb⟩
        refine ⟨_,rfl,?_⟩
        have n0_:=a0_ (Kd.R_below (rr_ HO_8.1) hb)
        have n1_:=a0_ (Kd.R_below (rr_ HO_11.1) hb)
        have n2_:=a0_ (Kd.R_below (rr_ HO_12.1) hb)
        have n3_:=a0_ (Kd.R_below (rr_ HO_22000.1) hb)
        have n4_:=a0_ (Kd.R_below (rr_ HO35.1) hb)
        have n5_:=a0_ (blk_below (bb_ BK1.1) hb)
        have n6_:=a0_ (blk_below (bb_ BK2.1) hb)
        have n7_:=a0_ (blk_below (bb_ BK21.1) hb)
        have n8_:=a0_ (below_step hb_ hb)
        clear HO_8
        clear HO_11
        clear HO_12
        clear HO_22000
        clear HO35
        clear BK1
        clear BK2
        clear BK21
        clear HB
        have HO_8:=n0_
        have HO_11:=n1_
        have HO_12:=n2_
        have HO_22000:=n3_
        have HO35:=n4_
        have BK1:=n5_
        have BK2:=n6_
        have BK21:=n7_
        have HB:=n8_
        clear n0_ n1_ n2_ n3_ n4_ n5_ n6_ n7_ n8_
        (try clear hb)
        (try clear hb2)
        (try clear hk)
        (try clear hi)
        refine hK.out _ _ ⟨(blk_cell BK21.1 0).trans rfl,(blk_cell BK1.1 0).trans rfl⟩ (fun hHeld=>?_)
        clear hK K
        refine norm_ (a':=?_) ?_ ?_
        rotate_left
        ·show Act.put _ (some 63) _ = _
         simp only [Act.put,s1_,s2_,s3_,i64_w,i32_w]
         rfl
        refine pure_ (i:=4) (N:=some 64) (v:=?_) (a':=?_) #[true,true,true,true,true] rfl rfl (by kernel_rfl) (fun _ _ _ h=>h) (Or.inl ⟨by rfl,?_⟩) ?_ ?_
        rotate_left
        ·intro w'
         go_simp
         with_reducible rfl
        rotate_left
        ·simp only [Act.put,s1_,s2_,s3_,i64_w,i32_w]
         rfl
        refine done_ (by kernel_rfl) ?_
        go_upto_region 21 with (first | ((with_reducible refine gate_callee (f:=11) rfl ?_);refine goesL_ (some 67) rfl rfl Try.func11 (by kernel_rfl) rfl #[.slice A1 l1.length c1] rfl lm_ ?_;(with_reducible refine (laws_toExitS.calls kj25 _ _ l1 t37 _ ?side1 ?side2 A63.1).mono ?_);(case side1=>exact cc_ (Kd.C_below HR1.1 HB.1));(case side2=>exact HC1.1);rintro e w73 ⟨v38,rfl,ho0,hb⟩;refine ⟨_,rfl,?_⟩;have n0_:=a0_ (Kd.R_elder' (rr_ HO_8.1) (Kd.R_base ho0) hb);have n1_:=a0_ (Kd.R_elder' (rr_ HO_11.1) (Kd.R_base ho0) hb);have n2_:=a0_ (Kd.R_elder' (rr_ HO_12.1) (Kd.R_base ho0) hb);have n3_:=a0_ (Kd.R_below (rr_ HO_22000.1) hb);have n4_:=a0_ (Kd.R_below (rr_ HO35.1) hb);have n5_:=a0_ (Kd.R_lower (Kd.R_new' (Kd.R_new' (Kd.R_new' ho0 (Kd.R_lt (rr_ HO_8.1))) (Kd.R_lt (rr_ HO_11.1))) (Kd.R_lt (rr_ HO_12.1))) (below_size hb_));have n6_:=a0_ (blk_below (bb_ BK1.1) hb);have n7_:=a0_ (blk_below (bb_ BK2.1) hb);have n8_:=a0_ (blk_below (bb_ BK21.1) hb);have n9_:=a0_ (below_step hb_ hb);clear HO_8 HO_11;clear HO_12 HO_22000;clear HO35 BK1;clear BK2 BK21 HB;have HO_8:=n0_;have HO_11:=n1_;have HO_12:=n2_;have HO_22000:=n3_;have HO35:=n4_;have HO39:=n5_;have BK1:=n6_;have BK2:=n7_;have BK21:=n8_;have HB:=n9_;clear n0_ n1_ n2_ n3_ n4_ n5_ n6_ n7_ n8_ n9_;(try clear hb);(try clear hb2);(try clear hk);(try clear hi);(try clear ho0);obtain ⟨Ao74,co74,eo74⟩:=Kd.R_slice HO39.1;subst eo74) | ((with_reducible refine gate_callee (f:=14) rfl ?_);refine goesL_ (some 68) rfl rfl Try.func14 (by kernel_rfl) rfl #[.slice Ao49 t22.length co49,.slice Ao74 t37.length co74] rfl lm_ ?_;(with_reducible refine (laws_eqExitS.calls kj25 _ _ t22 _ _ t37 true _ ?side1 ?side2 ?side3 ?side4 A64.1).mono ?_);(case side1=>repeat (first | exact (Kd.R_reads' HO_11.1).2.2 | (with_reducible refine Kd.C_alloc ?_ _) | (with_reducible refine Kd.C_drewN ?_ _) | (with_reducible refine Kd.C_drew ?_)));(case side2=>exact (Kd.R_reads' HO_11.1).2.1);(case side3=>repeat (first | exact (Kd.R_reads' HO39.1).2.2 | (with_reducible refine Kd.C_alloc ?_ _) | (with_reducible refine Kd.C_drewN ?_ _) | (with_reducible refine Kd.C_drew ?_)));(case side4=>exact (Kd.R_reads' HO39.1).2.1);rintro e w75 ⟨rfl,hb⟩;refine ⟨_,rfl,?_⟩;have n0_:=a0_ (Kd.R_below (rr_ HO_8.1) hb);have n1_:=a0_ (Kd.R_below (rr_ HO_11.1) hb);have n2_:=a0_ (Kd.R_below (rr_ HO_12.1) hb);have n3_:=a0_ (Kd.R_below (rr_ HO_22000.1) hb);have n4_:=a0_ (Kd.R_below (rr_ HO35.1) hb);have n5_:=a0_ (Kd.R_below (rr_ HO39.1) hb);have n6_:=a0_ (blk_below (bb_ BK1.1) hb);have n7_:=a0_ (blk_below (bb_ BK2.1) hb);have n8_:=a0_ (blk_below (bb_ BK21.1) hb);have n9_:=a0_ (below_step hb_ hb);clear HO_8 HO_11;clear HO_12 HO_22000;clear HO35 HO39;clear BK1 BK2;clear BK21 HB;have HO_8:=n0_;have HO_11:=n1_;have HO_12:=n2_;have HO_22000:=n3_;have HO35:=n4_;have HO39:=n5_;have BK1:=n6_;have BK2:=n7_;have BK21:=n8_;have HB:=n9_;clear n0_ n1_ n2_ n3_ n4_ n5_ n6_ n7_ n8_ n9_;(try clear hb);(try clear hb2);(try clear hk);(try clear hi);have hnb76:=NB21_1.1;have hnc76:=NB1_21.1;have hnb77:=NB21_2.1;have hnc77:=NB2_21.1;have hcz78_0 : w75.cell? ⟨gb21,0,none⟩ = some (.slice Ao42 t18.length co42):=(blk_cell BK21.1 0).trans rfl;have hfz78_0:=blk_frozen BK21.1 0) | ((with_reducible refine gate_callee (f:=16) rfl ?_);refine goesL_ (some 72) rfl rfl Try.func16 (by kernel_rfl) rfl #[.agg #[.slice Ao42 t18.length co42],.int .i64 1] rfl lm_ ?_;(with_reducible refine (laws_markTree.calls kj25 (fun k_=>some k_ = (.slice Ao42 t18.length co42 : Value).ownBlock) (.slice Ao42 t18.length co42) t18 1 t41 t42 w _ ?side1 ?side2 A66.1).mono ?_);(case side1=>repeat (first | (with_reducible first | exact HB.1 | apply below_alloc | apply pw_below_drewN | apply below_drew1 | refine below_set ?_ GE1.1 | refine below_set ?_ GE2.1 | refine below_set ?_ GE21.1) | exact HB.1));(case side2=>exact Kd.R_tight rfl HO_22000.1);rintro e w79 ⟨rfl,hy0,hb,hkp⟩;refine ⟨_,rfl,?_⟩;have n0_:=a0_ (Kd.R_mono (ok':=fun k_=>some k_ ≠ (.slice Ao49 t22.length co49 : Value).ownBlock ∧ some k_ ≠ (v29 : Value).ownBlock ∧ some k_ ≠ (.slice Ao74 t37.length co74 : Value).ownBlock) (Kd.R_keptB ((Kd.R_apart' HO_8.1 (Kd.R_typed HO_22000.1) (by decide))) hkp (fun k_ hk_ hs_=>(hk_.2) hs_)) (fun k_ hk_=>⟨hk_.1.1.1.1,hk_.1.1.1.2,hk_.1.1.2⟩));have n1_:=a0_ (Kd.R_mono (ok':=fun k_=>some k_ ≠ (v15 : Value).ownBlock ∧ some k_ ≠ (v29 : Value).ownBlock ∧ some k_ ≠ (.slice Ao74 t37.length co74 : Value).ownBlock) (Kd.R_keptB ((Kd.R_apart' HO_11.1 (Kd.R_typed HO_22000.1) (by decide))) hkp (fun k_ hk_ hs_=>(hk_.2) hs_)) (fun k_ hk_=>⟨hk_.1.1.1.1,hk_.1.1.1.2,hk_.1.1.2⟩));have n2_:=a0_ (Kd.R_mono (ok':=fun k_=>some k_ ≠ (v15 : Value).ownBlock ∧ some k_ ≠ (.slice Ao49 t22.length co49 : Value).ownBlock ∧ some k_ ≠ (.slice Ao74 t37.length co74 : Value).ownBlock) (Kd.R_keptB ((Kd.R_apart' HO_12.1 (Kd.R_typed HO_22000.1) (by decide))) hkp (fun k_ hk_ hs_=>(hk_.2) hs_)) (fun k_ hk_=>⟨hk_.1.1.1.1,hk_.1.1.1.2,hk_.1.1.2⟩));have n3_:=a0_ (Kd.R_reok rfl hy0 (fun k_ e_=>HO_22000.1.1 k_ e_));have n4_:=a0_ (blk_kept (bb_ BK1.1) hkp (fun hs_=>(fun e_=>(Kd.R_ne HO_22000.1 BK1.1 (by decide)) e_) hs_));have n5_:=a0_ (blk_kept (bb_ BK2.1) hkp (fun hs_=>(fun e_=>(Kd.R_ne HO_22000.1 BK2.1 (by decide)) e_) hs_));have n6_:=a0_ (blk_kept (bb_ BK21.1) hkp (fun hs_=>(fun e_=>(Kd.R_ne HO_22000.1 BK21.1 (by decide)) e_) hs_));have n7_:=a0_ (Kd.R_mono (ok':=fun k_=>some k_ ≠ (.slice Ao42 t18.length co42 : Value).ownBlock) (Kd.R_keptB (HO35.1) hkp (fun k_ hk_ hs_=>(hk_.2) hs_)) (fun k_ hk_=>hk_.1.2));have n8_:=a0_ (Kd.R_mono (ok':=fun k_=>some k_ ≠ (v15 : Value).ownBlock ∧ some k_ ≠ (.slice Ao49 t22.length co49 : Value).ownBlock ∧ some k_ ≠ (v29 : Value).ownBlock) (Kd.R_keptB ((Kd.R_apart' HO39.1 (Kd.R_typed HO_22000.1) (by decide))) hkp (fun k_ hk_ hs_=>(hk_.2) hs_)) (fun k_ hk_=>⟨hk_.1.1.1.1.2,hk_.1.1.1.2,hk_.1.1.2⟩));have n9_:=a0_ (hb);clear HO_8 HO_11;clear HO_12 HO_22000;clear BK1 BK2;clear BK21 HO35;clear HO39 HB;have HO_8:=n0_;have HO_11:=n1_;have HO_12:=n2_;have HO_22000:=n3_;have BK1:=n4_;have BK2:=n5_;have BK21:=n6_;have HO35:=n7_;have HO39:=n8_;have HB:=n9_;clear n0_ n1_ n2_ n3_ n4_ n5_ n6_ n7_ n8_ n9_;(try clear hb);(try clear hkp);(try clear hy0)) | ((with_reducible refine gate_callee (f:=17) rfl ?_);refine goesL_ (some 75) rfl rfl Try.func17 (by kernel_rfl) rfl #[.slice Ao49 t22.length co49,.int .i64 t41] rfl lm_ ?_;(with_reducible refine (laws_markExitS.calls kj25 (fun k_=>some k_ = (.slice Ao49 t22.length co49 : Value).ownBlock) (.slice Ao49 t22.length co49) t22 t41 t43 t44 w _ ?side1 ?side2 A67.1).mono ?_);(case side1=>repeat (first | (with_reducible first | exact HB.1 | apply below_alloc | apply pw_below_drewN | apply below_drew1 | refine below_set ?_ GE1.1 | refine below_set ?_ GE2.1 | refine below_set ?_ GE21.1) | exact HB.1));(case side2=>exact Kd.R_tight rfl HO_11.1);rintro e w80 ⟨rfl,hy0,hb,hkp⟩;refine ⟨_,rfl,?_⟩;have n0_:=a0_ (Kd.R_mono (ok':=fun k_=>some k_ ≠ (.slice Ao49 t22.length co49 : Value).ownBlock ∧ some k_ ≠ (v29 : Value).ownBlock ∧ some k_ ≠ (.slice Ao74 t37.length co74 : Value).ownBlock) (Kd.R_keptB (HO_8.1) hkp (fun k_ hk_ hs_=>(hk_.1) hs_)) (fun k_ hk_=>⟨hk_.1.1,hk_.1.2.1,hk_.1.2.2⟩));have n1_:=a0_ (Kd.R_reok rfl hy0 (fun k_ e_=>HO_11.1.1 k_ e_));have n2_:=a0_ (Kd.R_mono (ok':=fun k_=>some k_ ≠ (v15 : Value).ownBlock ∧ some k_ ≠ (.slice Ao49 t22.length co49 : Value).ownBlock ∧ some k_ ≠ (.slice Ao74 t37.length co74 : Value).ownBlock) (Kd.R_keptB (HO_12.1) hkp (fun k_ hk_ hs_=>(hk_.2.1) hs_)) (fun k_ hk_=>⟨hk_.1.1,hk_.1.2.1,hk_.1.2.2⟩));have n3_:=a0_ (Kd.R_mono (ok':=fun k_=>some k_ ≠ (.slice Ao71 t33.length co71 : Value).ownBlock) (Kd.R_keptB ((Kd.R_apart' HO_22000.1 (Kd.R_typed HO_11.1) (by decide))) hkp (fun k_ hk_ hs_=>(hk_.2) hs_)) (fun k_ hk_=>hk_.1.1.2));have n4_:=a0_ (blk_kept (bb_ BK1.1) hkp (fun hs_=>(fun e_=>(Kd.R_ne HO_11.1 BK1.1 (by decide)) e_) hs_));have n5_:=a0_ (blk_kept (bb_ BK2.1) hkp (fun hs_=>(fun e_=>(Kd.R_ne HO_11.1 BK2.1 (by decide)) e_) hs_));have n6_:=a0_ (blk_kept (bb_ BK21.1) hkp (fun hs_=>(fun e_=>(Kd.R_ne HO_11.1 BK21.1 (by decide)) e_) hs_));have n7_:=a0_ (Kd.R_mono (ok':=fun k_=>some k_ ≠ (.slice Ao42 t18.length co42 : Value).ownBlock) (Kd.R_keptB ((Kd.R_apart' HO35.1 (Kd.R_typed HO_11.1) (by decide))) hkp (fun k_ hk_ hs_=>(hk_.2) hs_)) (fun k_ hk_=>hk_.1.1));have n8_:=a0_ (Kd.R_mono (ok':=fun k_=>some k_ ≠ (v15 : Value).ownBlock ∧ some k_ ≠ (.slice Ao49 t22.length co49 : Value).ownBlock ∧ some k_ ≠ (v29 : Value).ownBlock) (Kd.R_keptB (HO39.1) hkp (fun k_ hk_ hs_=>(hk_.2.1) hs_)) (fun k_ hk_=>⟨hk_.1.1,hk_.1.2.1,hk_.1.2.2⟩));have n9_:=a0_ (hb);clear HO_8 HO_11;clear HO_12 HO_22000;clear BK1 BK2;clear BK21 HO35;clear HO39 HB;have HO_8:=n0_;have HO_11:=n1_;have HO_12:=n2_;have HO_22000:=n3_;have BK1:=n4_;have BK2:=n5_;have BK21:=n6_;have HO35:=n7_;have HO39:=n8_;have HB:=n9_;clear n0_ n1_ n2_ n3_ n4_ n5_ n6_ n7_ n8_ n9_;(try clear hb);(try clear hkp);(try clear hy0)))
        (try simp only [Act.put,s1_,s2_,s3_])
        go_cut [88] (fun v88 wc=>∃ (kq : Nat) (x88_67 : Bool),v88 = .bool x88_67 ∧ Aside0 (laws_FnExactPushExit.j1 kq l1 t14 t17 t28 x88_67 l0_0 a2_0 a2_1 a2_2 = some r) ∧ Aside0 (kq ≤ kj25) ∧ Aside0 (Kd.R k38 38 wc w.heap.size (fun k_=>some k_ ≠ (v29 : Value).ownBlock) v15 t14) ∧ Aside0 (Kd.R k38 38 wc w.heap.size (fun k_=>some k_ ≠ (v15 : Value).ownBlock) v29 t28) ∧ Aside0 (Kd.R k76 76 wc w.heap.size (fun _=>True) (.slice Ao42 t18.length co42) t42) ∧ Aside0 (wc.heap[gb1]? = some (.cells #[(.slice A0_0 l0_0.length c0_0)] 24 (0,0))) ∧ Aside0 (wc.heap[gb2]? = some (.cells #[.int .i64 a2_0,.int .i64 a2_1,.int .i64 a2_2] 27 (0,0))) ∧ Aside0 (wc.heap[gb21]? = some (.cells #[(.slice Ao42 t18.length co42)] 35 (0,0))) ∧ Aside0 (Below w.heap.size w wc))
        case first =>
         have H:=HC68.1
         clear HC68
         by_cases c81 : t43 < 0
         ·rw [if_pos c81] at H
          have c81b0 : decide (t43 < 0) = true:=decide_eq_true c81
          clear c81
          (first | rw [c81b0] | (simp only [i64_w,i32_w];rw [c81b0]) | skip)
          have H':=a0_ H
          clear H
          go_wp2
          go_meet
          case rel=>exact ⟨_,(true),(by first | rfl | (simp;done) | (simp [*];done)),H',⟨by have:=HJ25.out;first | omega | exact Nat.le_refl _⟩,⟨by (with_reducible repeat (first | apply Kd.R_alloc | apply Kd.R_drewN | apply Kd.R_drew));exact Kd.R_mono HO_8.1 (fun _ hk=>hk.2.1)⟩,⟨by (with_reducible repeat (first | apply Kd.R_alloc | apply Kd.R_drewN | apply Kd.R_drew));exact Kd.R_mono HO_12.1 (fun _ hk=>hk.1)⟩,⟨by (with_reducible repeat (first | apply Kd.R_alloc | apply Kd.R_drewN | apply Kd.R_drew));exact Kd.R_mono HO_22000.1 (fun _ hk=>trivial)⟩,⟨by (with_reducible repeat (first | refine blk_drewN ?_ _ | refine blk_drew ?_ | refine blk_alloc ?_ _));exact BK1.1⟩,⟨by (with_reducible repeat (first | refine blk_drewN ?_ _ | refine blk_drew ?_ | refine blk_alloc ?_ _));exact BK2.1⟩,⟨by (with_reducible repeat (first | refine blk_drewN ?_ _ | refine blk_drew ?_ | refine blk_alloc ?_ _));exact BK21.1⟩,⟨hb_⟩⟩
         ·rw [if_neg c81] at H
          have c81b0 : decide (t43 < 0) = false:=decide_eq_false c81
          clear c81
          (first | rw [c81b0] | (simp only [i64_w,i32_w];rw [c81b0]) | skip)
          replace H:=Option.bind_eq_some_iff.mp H
          obtain ⟨t45,A820,H⟩:=H
          replace H : (if t45 = true then (laws_FnExactPushExit.j1 kj25 l1 t14 t17 t28 (t31 != t17) l0_0 a2_0 a2_1 a2_2) else (laws_FnExactPushExit.j1 kj25 l1 t14 t17 t28 true l0_0 a2_0 a2_1 a2_2)) = some r:=H
          have A82:=a0_ A820
          clear A820
          by_cases c83 : t45 = true
          ·subst c83
           have H1 : (laws_FnExactPushExit.j1 kj25 l1 t14 t17 t28 (t31 != t17) l0_0 a2_0 a2_1 a2_2) = some r:=by rw [if_pos rfl] at H;exact H
           clear H
           have H:=H1
           clear H1
           have H':=a0_ H
           clear H
           obtain ⟨Ao84,co84,eo84⟩:=Kd.R_slice HO_12.1
           subst eo84
           obtain ⟨Ao85,co85,eo85⟩:=Kd.R_slice HO_8.1
           subst eo85
           go_wp2_with (first | (go_at_call 14;(with_reducible refine (laws_eqExitS.calls kj25 _ _ t28 _ _ t14 true _ ?side1 ?side2 ?side3 ?side4 A82.1).mono ?_);(case side1=>repeat (first | exact (Kd.R_reads' HO_12.1).2.2 | (with_reducible refine Kd.C_alloc ?_ _) | (with_reducible refine Kd.C_drewN ?_ _) | (with_reducible refine Kd.C_drew ?_)));(case side2=>exact (Kd.R_reads' HO_12.1).2.1);(case side3=>repeat (first | exact (Kd.R_reads' HO_8.1).2.2 | (with_reducible refine Kd.C_alloc ?_ _) | (with_reducible refine Kd.C_drewN ?_ _) | (with_reducible refine Kd.C_drew ?_)));(case side4=>exact (Kd.R_reads' HO_8.1).2.1);rintro e w86 ⟨rfl,hb⟩;have n0_:=a0_ (Kd.R_below (rr_ HO_8.1) hb);have n1_:=a0_ (Kd.R_below (rr_ HO_11.1) hb);have n2_:=a0_ (Kd.R_below (rr_ HO_12.1) hb);have n3_:=a0_ (Kd.R_below (rr_ HO_22000.1) hb);have n4_:=a0_ (Kd.R_below (rr_ HO35.1) hb);have n5_:=a0_ (Kd.R_below (rr_ HO39.1) hb);have n6_:=a0_ (blk_below (bb_ BK1.1) hb);have n7_:=a0_ (blk_below (bb_ BK2.1) hb);have n8_:=a0_ (blk_below (bb_ BK21.1) hb);have n9_:=a0_ (below_step hb_ hb);clear HO_8 HO_11;clear HO_12 HO_22000;clear HO35 HO39;clear BK1 BK2;clear BK21 HB;have HO_8:=n0_;have HO_11:=n1_;have HO_12:=n2_;have HO_22000:=n3_;have HO35:=n4_;have HO39:=n5_;have BK1:=n6_;have BK2:=n7_;have BK21:=n8_;have HB:=n9_;clear n0_ n1_ n2_ n3_ n4_ n5_ n6_ n7_ n8_ n9_;(try clear hb);(try clear hb2);(try clear hk);(try clear hi)))
           go_meet
           case rel=>exact ⟨_,((t31 != t17)),(by first | rfl | (simp;done) | (simp [*];done)),H',⟨by have:=HJ25.out;first | omega | exact Nat.le_refl _⟩,⟨by (with_reducible repeat (first | apply Kd.R_alloc | apply Kd.R_drewN | apply Kd.R_drew));exact Kd.R_mono HO_8.1 (fun _ hk=>hk.2.1)⟩,⟨by (with_reducible repeat (first | apply Kd.R_alloc | apply Kd.R_drewN | apply Kd.R_drew));exact Kd.R_mono HO_12.1 (fun _ hk=>hk.1)⟩,⟨by (with_reducible repeat (first | apply Kd.R_alloc | apply Kd.R_drewN | apply Kd.R_drew));exact Kd.R_mono HO_22000.1 (fun _ hk=>trivial)⟩,⟨by (with_reducible repeat (first | refine blk_drewN ?_ _ | refine blk_drew ?_ | refine blk_alloc ?_ _));exact BK1.1⟩,⟨by (with_reducible repeat (first | refine blk_drewN ?_ _ | refine blk_drew ?_ | refine blk_alloc ?_ _));exact BK2.1⟩,⟨by (with_reducible repeat (first | refine blk_drewN ?_ _ | refine blk_drew ?_ | refine blk_alloc ?_ _));exact BK21.1⟩,⟨hb_⟩⟩
          ·replace c83:=Bool.eq_false_iff.mpr c83
           subst c83
           have H1 : (laws_FnExactPushExit.j1 kj25 l1 t14 t17 t28 true l0_0 a2_0 a2_1 a2_2) = some r:=by rw [if_neg (show ¬ (false = true) by decide)] at H;exact H
           clear H
           have H:=H1
           clear H1
           have H':=a0_ H
           clear H
           obtain ⟨Ao87,co87,eo87⟩:=Kd.R_slice HO_12.1
           subst eo87
           obtain ⟨Ao88,co88,eo88⟩:=Kd.R_slice HO_8.1
           subst eo88
           go_wp2_with (first | (go_at_call 14;(with_reducible refine (laws_eqExitS.calls kj25 _ _ t28 _ _ t14 false _ ?side1 ?side2 ?side3 ?side4 A82.1).mono ?_);(case side1=>repeat (first | exact (Kd.R_reads' HO_12.1).2.2 | (with_reducible refine Kd.C_alloc ?_ _) | (with_reducible refine Kd.C_drewN ?_ _) | (with_reducible refine Kd.C_drew ?_)));(case side2=>exact (Kd.R_reads' HO_12.1).2.1);(case side3=>repeat (first | exact (Kd.R_reads' HO_8.1).2.2 | (with_reducible refine Kd.C_alloc ?_ _) | (with_reducible refine Kd.C_drewN ?_ _) | (with_reducible refine Kd.C_drew ?_)));(case side4=>exact (Kd.R_reads' HO_8.1).2.1);rintro e w89 ⟨rfl,hb⟩;have n0_:=a0_ (Kd.R_below (rr_ HO_8.1) hb);have n1_:=a0_ (Kd.R_below (rr_ HO_11.1) hb);have n2_:=a0_ (Kd.R_below (rr_ HO_12.1) hb);have n3_:=a0_ (Kd.R_below (rr_ HO_22000.1) hb);have n4_:=a0_ (Kd.R_below (rr_ HO35.1) hb);have n5_:=a0_ (Kd.R_below (rr_ HO39.1) hb);have n6_:=a0_ (blk_below (bb_ BK1.1) hb);have n7_:=a0_ (blk_below (bb_ BK2.1) hb);have n8_:=a0_ (blk_below (bb_ BK21.1) hb);have n9_:=a0_ (below_step hb_ hb);clear HO_8 HO_11;clear HO_12 HO_22000;clear HO35 HO39;clear BK1 BK2;clear BK21 HB;have HO_8:=n0_;have HO_11:=n1_;have HO_12:=n2_;have HO_22000:=n3_;have HO35:=n4_;have HO39:=n5_;have BK1:=n6_;have BK2:=n7_;have BK21:=n8_;have HB:=n9_;clear n0_ n1_ n2_ n3_ n4_ n5_ n6_ n7_ n8_ n9_;(try clear hb);(try clear hb2);(try clear hk);(try clear hi)))
           go_meet
           case rel=>exact ⟨_,(true),(by first | rfl | (simp;done) | (simp [*];done)),H',⟨by have:=HJ25.out;first | omega | exact Nat.le_refl _⟩,⟨by (with_reducible repeat (first | apply Kd.R_alloc | apply Kd.R_drewN | apply Kd.R_drew));exact Kd.R_mono HO_8.1 (fun _ hk=>hk.2.1)⟩,⟨by (with_reducible repeat (first | apply Kd.R_alloc | apply Kd.R_drewN | apply Kd.R_drew));exact Kd.R_mono HO_12.1 (fun _ hk=>hk.1)⟩,⟨by (with_reducible repeat (first | apply Kd.R_alloc | apply Kd.R_drewN | apply Kd.R_drew));exact Kd.R_mono HO_22000.1 (fun _ hk=>trivial)⟩,⟨by (with_reducible repeat (first | refine blk_drewN ?_ _ | refine blk_drew ?_ | refine blk_alloc ?_ _));exact BK1.1⟩,⟨by (with_reducible repeat (first | refine blk_drewN ?_ _ | refine blk_drew ?_ | refine blk_alloc ?_ _));exact BK2.1⟩,⟨by (with_reducible repeat (first | refine blk_drewN ?_ _ | refine blk_drew ?_ | refine blk_alloc ?_ _));exact BK21.1⟩,⟨hb_⟩⟩
        case rest =>
         clear HC68
         try clear c1
         try clear c2
         try clear p2
         try clear c3
         try clear c4
         try clear c5
         try clear c5b0
         try clear c6
         try clear c7
         try clear c8
         try clear c9
         try clear c10
         try clear c11
         try clear c12
         try clear c12b0
         try clear c13
         try clear c14
         try clear c15
         try clear c16
         try clear c17
         try clear c29
         try clear c43
         try clear c44
         try clear c52
         try clear c59
         try clear c62
         try clear c65
         try clear c76
         try clear c77
         try clear c81
         try clear c81b0
         try clear c83
         try clear hcz16_0
         try clear hcz30_0
         try clear hcz39_0
         try clear hcz45_0
         try clear hcz78_0
         try clear hcz9_0
         try clear hfz16_0
         try clear hfz30_0
         try clear hfz39_0
         try clear hfz45_0
         try clear hfz78_0
         try clear hfz9_0
         try clear p2
         obtain ⟨kq,x88_67,rfl,HA,HJ67,HO_8,HO_12,HO_22000,BK1,BK2,BK21,HB⟩:=hcut
         have hl22000_67:=(Kd.R_reads' HO_22000.1).1
         rw [hl22000_67] at HO_22000
         (try simp only [hl22000_67])
         (try simp only [hl22000_67] at BK1)
         (try simp only [hl22000_67] at BK2)
         (try simp only [hl22000_67] at BK21)
         (try simp only [hl22000_67] at HO_8)
         (try simp only [hl22000_67] at HO_12)
         cases kq with
         | zero=>exact absurd HA.out (by simp [laws_FnExactPushExit.j1])
         | succ kj67 =>
          have H:=HA.out
          clear HA
          simp only [laws_FnExactPushExit.j1] at H
          by_cases c90 : x88_67 = true
          ·subst c90
           have H1 : (some false) = some r:=by rw [if_pos rfl] at H;exact H
           clear H
           have H:=H1
           clear H1
           obtain rfl:=Option.some.inj H
           go_wp2
           go_ret
           exact ⟨by first | rfl | (simp [errW_none,errW_some] <;> rfl) | (simp [*,errW_none,errW_some] <;> rfl),hb_⟩
          ·replace c90:=Bool.eq_false_iff.mpr c90
           subst c90
           have H1 : ((laws_markExitS.f kj67 t28 1).bind fun bt46=>((laws_heldExitS.f kj67 bt46.2 1).bind fun t48=>(if t48 < 0 then (some false) else (if t48 = bt46.1 then ((laws_toTree.f kj67 l0_0).bind fun t49=>((laws_toExitS.f kj67 l1).bind fun t52=>((laws_toExit.f a2_0 a2_1 a2_2).bind fun bt55=>((impl_PushExit.f t49 t52 bt55.1 bt55.2.1 bt55.2.2).bind fun bt58=>((laws_eqExitS.f kj67 bt58.1 t14).bind fun t62=>(if t62 = true then (laws_FnExactPushExit.j2 kj67 bt46.2 bt46.1 (bt58.2 != t17)) else (laws_FnExactPushExit.j2 kj67 bt46.2 bt46.1 true))))))) else (some false))))) = some r:=by rw [if_neg (show ¬ (false = true) by decide)] at H;exact H
           clear H
           have H:=H1
           clear H1
           replace H:=Option.bind_eq_some_iff.mp H
           obtain ⟨⟨t46,t47⟩,A910,H⟩:=H
           replace H : ((laws_heldExitS.f kj67 t47 1).bind fun t48=>(if t48 < 0 then (some false) else (if t48 = t46 then ((laws_toTree.f kj67 l0_0).bind fun t49=>((laws_toExitS.f kj67 l1).bind fun t52=>((laws_toExit.f a2_0 a2_1 a2_2).bind fun bt55=>((impl_PushExit.f t49 t52 bt55.1 bt55.2.1 bt55.2.2).bind fun bt58=>((laws_eqExitS.f kj67 bt58.1 t14).bind fun t62=>(if t62 = true then (laws_FnExactPushExit.j2 kj67 t47 t46 (bt58.2 != t17)) else (laws_FnExactPushExit.j2 kj67 t47 t46 true))))))) else (some false)))) = some r:=H
           have A91:=a0_ A910
           clear A910
           replace H:=Option.bind_eq_some_iff.mp H
           obtain ⟨t48,A920,H⟩:=H
           replace H : (if t48 < 0 then (some false) else (if t48 = t46 then ((laws_toTree.f kj67 l0_0).bind fun t49=>((laws_toExitS.f kj67 l1).bind fun t52=>((laws_toExit.f a2_0 a2_1 a2_2).bind fun bt55=>((impl_PushExit.f t49 t52 bt55.1 bt55.2.1 bt55.2.2).bind fun bt58=>((laws_eqExitS.f kj67 bt58.1 t14).bind fun t62=>(if t62 = true then (laws_FnExactPushExit.j2 kj67 t47 t46 (bt58.2 != t17)) else (laws_FnExactPushExit.j2 kj67 t47 t46 true))))))) else (some false))) = some r:=H
           have A92:=a0_ A920
           clear A920
           by_cases c93 : t48 < 0
           ·rw [if_pos c93] at H
            have c93b0 : decide (t48 < 0) = true:=decide_eq_true c93
            clear c93
            obtain rfl:=Option.some.inj H
            obtain ⟨Ao94,co94,eo94⟩:=Kd.R_slice HO_12.1
            subst eo94
            go_wp2_with (first | ((with_reducible refine gate_callee (f:=17) rfl ?_);refine goesL_ (some 91) rfl rfl Try.func17 (by kernel_rfl) rfl #[.slice Ao94 t28.length co94,.int .i64 1] rfl lm_ ?_;(with_reducible refine (laws_markExitS.calls kj67 (fun k_=>some k_ = (.slice Ao94 t28.length co94 : Value).ownBlock) (.slice Ao94 t28.length co94) t28 1 t46 t47 w _ ?side1 ?side2 A91.1).mono ?_);(case side1=>repeat (first | (with_reducible first | exact HB.1 | apply below_alloc | apply pw_below_drewN | apply below_drew1 | refine below_set ?_ GE1.1 | refine below_set ?_ GE2.1 | refine below_set ?_ GE21.1) | exact HB.1));(case side2=>exact Kd.R_tight rfl HO_12.1);rintro e w95 ⟨rfl,hy0,hb,hkp⟩;refine ⟨_,rfl,?_⟩;have n0_:=a0_ (Kd.R_mono (ok':=fun k_=>some k_ ≠ (.slice Ao94 t28.length co94 : Value).ownBlock) (Kd.R_keptB (HO_8.1) hkp (fun k_ hk_ hs_=>(hk_) hs_)) (fun k_ hk_=>hk_.1));have n1_:=a0_ (Kd.R_reok rfl hy0 (fun k_ e_=>HO_12.1.1 k_ e_));have n2_:=a0_ (Kd.R_mono (ok':=fun k_=>True) (Kd.R_keptB ((Kd.R_apart' HO_22000.1 (Kd.R_typed HO_12.1) (by decide))) hkp (fun k_ hk_ hs_=>(hk_.2) hs_)) (fun k_ hk_=>trivial));have n3_:=a0_ (blk_kept (bb_ BK1.1) hkp (fun hs_=>(fun e_=>(Kd.R_ne HO_12.1 BK1.1 (by decide)) e_) hs_));have n4_:=a0_ (blk_kept (bb_ BK2.1) hkp (fun hs_=>(fun e_=>(Kd.R_ne HO_12.1 BK2.1 (by decide)) e_) hs_));have n5_:=a0_ (blk_kept (bb_ BK21.1) hkp (fun hs_=>(fun e_=>(Kd.R_ne HO_12.1 BK21.1 (by decide)) e_) hs_));have n6_:=a0_ (hb);clear HO_8 HO_12;clear HO_22000 BK1;clear BK2 BK21 HB;have HO_8:=n0_;have HO_12:=n1_;have HO_22000:=n2_;have BK1:=n3_;have BK2:=n4_;have BK21:=n5_;have HB:=n6_;clear n0_ n1_ n2_ n3_ n4_ n5_ n6_;(try clear hb);(try clear hkp);(try clear hy0)) | ((with_reducible refine gate_callee (f:=18) rfl ?_);refine goesL_ (some 94) rfl rfl Try.func18 (by kernel_rfl) rfl #[.slice Ao94 t47.length co94,.int .i64 1] rfl (by (try simp only [List.map_toArray,List.map_cons,List.map_nil]);first | done | (rw [show t47.length = t28.length from (Kd.R_reads' HO_12.1).1.symm] <;> rfl) | rfl | (simp only [List.length_drop,List.length_take];rfl)) ?_;(with_reducible refine (laws_heldExitS.calls kj67 _ _ t47 1 t48 _ ?side1 ?side2 A92.1).mono ?_);(case side1=>repeat (first | exact (Kd.R_reads' HO_12.1).2.2 | (with_reducible refine Kd.C_alloc ?_ _) | (with_reducible refine Kd.C_drewN ?_ _) | (with_reducible refine Kd.C_drew ?_)));(case side2=>rw [show t47.length = t28.length from (Kd.R_reads' HO_12.1).1.symm];exact (Kd.R_reads' HO_12.1).2.1);rintro e w' ⟨rfl,⟨nd,rfl⟩⟩;refine ⟨_,rfl,?_⟩))
            go_ret
            exact ⟨by first | rfl | (simp [errW_none,errW_some] <;> rfl) | (simp [*,errW_none,errW_some] <;> rfl),hb_⟩
           ·rw [if_neg c93] at H
            have c93b0 : decide (t48 < 0) = false:=decide_eq_false c93
            clear c93
            by_cases c96 : t48 = t46
            ·rw [if_pos c96] at H
             have c96b0 : (t48 == t46) = true:=beq_iff_eq.mpr c96
             have c96b1 : (t48 != t46) = false:=bne_eq_false_iff_eq.mpr c96
             clear c96
             replace H:=Option.bind_eq_some_iff.mp H
             obtain ⟨t49,A970,H⟩:=H
             replace H : ((laws_toExitS.f kj67 l1).bind fun t52=>((laws_toExit.f a2_0 a2_1 a2_2).bind fun bt55=>((impl_PushExit.f t49 t52 bt55.1 bt55.2.1 bt55.2.2).bind fun bt58=>((laws_eqExitS.f kj67 bt58.1 t14).bind fun t62=>(if t62 = true then (laws_FnExactPushExit.j2 kj67 t47 t46 (bt58.2 != t17)) else (laws_FnExactPushExit.j2 kj67 t47 t46 true)))))) = some r:=H
             have A97:=a0_ A970
             clear A970
             replace H:=Option.bind_eq_some_iff.mp H
             obtain ⟨t52,A980,H⟩:=H
             replace H : ((laws_toExit.f a2_0 a2_1 a2_2).bind fun bt55=>((impl_PushExit.f t49 t52 bt55.1 bt55.2.1 bt55.2.2).bind fun bt58=>((laws_eqExitS.f kj67 bt58.1 t14).bind fun t62=>(if t62 = true then (laws_FnExactPushExit.j2 kj67 t47 t46 (bt58.2 != t17)) else (laws_FnExactPushExit.j2 kj67 t47 t46 true))))) = some r:=H
             have A98:=a0_ A980
             clear A980
             replace H:=Option.bind_eq_some_iff.mp H
             obtain ⟨⟨t55,t56,t57⟩,A990,H⟩:=H
             replace H : ((impl_PushExit.f t49 t52 t55 t56 t57).bind fun bt58=>((laws_eqExitS.f kj67 bt58.1 t14).bind fun t62=>(if t62 = true then (laws_FnExactPushExit.j2 kj67 t47 t46 (bt58.2 != t17)) else (laws_FnExactPushExit.j2 kj67 t47 t46 true)))) = some r:=H
             have A99:=a0_ A990
             clear A990
             replace H:=Option.bind_eq_some_iff.mp H
             obtain ⟨⟨t58,t61⟩,A1000,H⟩:=H
             replace H : ((laws_eqExitS.f kj67 t58 t14).bind fun t62=>(if t62 = true then (laws_FnExactPushExit.j2 kj67 t47 t46 (t61 != t17)) else (laws_FnExactPushExit.j2 kj67 t47 t46 true))) = some r:=H
             have A100:=a0_ A1000
             clear A1000
             have HC101:=a0_ H
             clear H
             obtain ⟨Ao102,co102,eo102⟩:=Kd.R_slice HO_12.1
             subst eo102
             try go_wp2_with (first | ((with_reducible refine gate_callee (f:=17) rfl ?_);refine goesL_ (some 91) rfl rfl Try.func17 (by kernel_rfl) rfl #[.slice Ao102 t28.length co102,.int .i64 1] rfl lm_ ?_;(with_reducible refine (laws_markExitS.calls kj67 (fun k_=>some k_ = (.slice Ao102 t28.length co102 : Value).ownBlock) (.slice Ao102 t28.length co102) t28 1 t46 t47 w _ ?side1 ?side2 A91.1).mono ?_);(case side1=>repeat (first | (with_reducible first | exact HB.1 | apply below_alloc | apply pw_below_drewN | apply below_drew1 | refine below_set ?_ GE1.1 | refine below_set ?_ GE2.1 | refine below_set ?_ GE21.1) | exact HB.1));(case side2=>exact Kd.R_tight rfl HO_12.1);rintro e w103 ⟨rfl,hy0,hb,hkp⟩;refine ⟨_,rfl,?_⟩;have n0_:=a0_ (Kd.R_mono (ok':=fun k_=>some k_ ≠ (.slice Ao102 t28.length co102 : Value).ownBlock) (Kd.R_keptB (HO_8.1) hkp (fun k_ hk_ hs_=>(hk_) hs_)) (fun k_ hk_=>hk_.1));have n1_:=a0_ (Kd.R_reok rfl hy0 (fun k_ e_=>HO_12.1.1 k_ e_));have n2_:=a0_ (Kd.R_mono (ok':=fun k_=>True) (Kd.R_keptB ((Kd.R_apart' HO_22000.1 (Kd.R_typed HO_12.1) (by decide))) hkp (fun k_ hk_ hs_=>(hk_.2) hs_)) (fun k_ hk_=>trivial));have n3_:=a0_ (blk_kept (bb_ BK1.1) hkp (fun hs_=>(fun e_=>(Kd.R_ne HO_12.1 BK1.1 (by decide)) e_) hs_));have n4_:=a0_ (blk_kept (bb_ BK2.1) hkp (fun hs_=>(fun e_=>(Kd.R_ne HO_12.1 BK2.1 (by decide)) e_) hs_));have n5_:=a0_ (blk_kept (bb_ BK21.1) hkp (fun hs_=>(fun e_=>(Kd.R_ne HO_12.1 BK21.1 (by decide)) e_) hs_));have n6_:=a0_ (hb);clear HO_8 HO_12;clear HO_22000 BK1;clear BK2 BK21 HB;have HO_8:=n0_;have HO_12:=n1_;have HO_22000:=n2_;have BK1:=n3_;have BK2:=n4_;have BK21:=n5_;have HB:=n6_;clear n0_ n1_ n2_ n3_ n4_ n5_ n6_;(try clear hb);(try clear hkp);(try clear hy0)) | ((with_reducible refine gate_callee (f:=18) rfl ?_);refine goesL_ (some 94) rfl rfl Try.func18 (by kernel_rfl) rfl #[.slice Ao102 t47.length co102,.int .i64 1] rfl (by (try simp only [List.map_toArray,List.map_cons,List.map_nil]);first | done | (rw [show t47.length = t28.length from (Kd.R_reads' HO_12.1).1.symm] <;> rfl) | rfl | (simp only [List.length_drop,List.length_take];rfl)) ?_;(with_reducible refine (laws_heldExitS.calls kj67 _ _ t47 1 t48 _ ?side1 ?side2 A92.1).mono ?_);(case side1=>repeat (first | exact (Kd.R_reads' HO_12.1).2.2 | (with_reducible refine Kd.C_alloc ?_ _) | (with_reducible refine Kd.C_drewN ?_ _) | (with_reducible refine Kd.C_drew ?_)));(case side2=>rw [show t47.length = t28.length from (Kd.R_reads' HO_12.1).1.symm];exact (Kd.R_reads' HO_12.1).2.1);rintro e w' ⟨rfl,⟨nd,rfl⟩⟩;refine ⟨_,rfl,?_⟩))
             (try (rw [drewN_self w103];generalize hq_ : World.drewN w103 _ = w103;have n0_ : Aside0 (Kd.R k38 38 w103 w.heap.size (fun k_=>some k_ ≠ (v15 : Value).ownBlock) (.slice Ao102 t28.length co102) t47):=⟨by rw [← hq_];exact (rr_ HO_12.1)⟩;have n1_ : Aside0 (Kd.R k76 76 w103 w.heap.size (fun k_=>True) (.slice Ao42 t42.length co42) t42):=⟨by rw [← hq_];exact (rr_ HO_22000.1)⟩;have n2_ : Aside0 (Kd.R k38 38 w103 w.heap.size (fun k_=>some k_ ≠ (.slice Ao102 t28.length co102 : Value).ownBlock) v15 t14):=⟨by rw [← hq_];exact (rr_ HO_8.1)⟩;have n3_ : Aside0 (w103.heap[gb1]? = some (.cells #[.slice A0_0 l0_0.length c0_0] 24 (0,0))):=⟨by rw [← hq_];exact (bb_ BK1.1)⟩;have n4_ : Aside0 (w103.heap[gb2]? = some (.cells #[.int .i64 a2_0,.int .i64 a2_1,.int .i64 a2_2] 27 (0,0))):=⟨by rw [← hq_];exact (bb_ BK2.1)⟩;have n5_ : Aside0 (w103.heap[gb21]? = some (.cells #[.slice Ao42 t42.length co42] 35 (0,0))):=⟨by rw [← hq_];exact (bb_ BK21.1)⟩;have n6_ : Aside0 (Below w.heap.size w w103):=⟨by rw [← hq_];exact hb_⟩;clear HO_12 HO_22000 HO_8 BK1 BK2 BK21 HB hq_;have HO_12:=n0_;have HO_22000:=n1_;have HO_8:=n2_;have BK1:=n3_;have BK2:=n4_;have BK21:=n5_;have HB:=n6_;clear n0_ n1_ n2_ n3_ n4_ n5_ n6_))
             have n0_:=a0_ (Kd.R_drew HO_8.1)
             have n1_:=a0_ (Kd.R_drew HO_12.1)
             have n2_:=a0_ (Kd.R_drew HO_22000.1)
             have n3_:=a0_ (blk_drew BK1.1)
             have n4_:=a0_ (blk_drew BK2.1)
             have n5_:=a0_ (blk_drew BK21.1)
             have n6_:=a0_ (below_drew1 HB.1)
             clear HO_8
             clear HO_12
             clear HO_22000
             clear BK1
             clear BK2
             clear BK21
             clear HB
             have HO_8:=n0_
             have HO_12:=n1_
             have HO_22000:=n2_
             have BK1:=n3_
             have BK2:=n4_
             have BK21:=n5_
             have HB:=n6_
             clear n0_ n1_ n2_ n3_ n4_ n5_ n6_
             refine start_ (n:=12) (S:=fun w'=>w'.cell? ⟨gb1,0,none⟩ = some (.slice A0_0 l0_0.length c0_0) ∧ w'.cell? ⟨gb2,0,none⟩ = some (.int .i64 a2_0) ∧ w'.cell? ⟨gb2,1,none⟩ = some (.int .i64 a2_1) ∧ w'.cell? ⟨gb2,2,none⟩ = some (.int .i64 a2_2)) (ds:=[]) #[false,false,false,false,false,false,false,false,false,false,false,false] (by kernel_rfl) rfl rfl ⟨(blk_cell BK1.1 0).trans rfl,(blk_cell BK2.1 0).trans rfl,(blk_cell BK2.1 1).trans rfl,(blk_cell BK2.1 2).trans rfl⟩ (fun hHeld=>?_);refine with_tabW laws_FnExactPushExit.tab31 laws_FnExactPushExit.bits31 (fun HT_ HW_=>?_)
             generalize w103.drew = w104 at HO_8 HO_12 HO_22000 BK1 BK2 BK21 HB hHeld ⊢
             refine pure_ (i:=2) (N:=some 103) (v:=?_) (a':=?_) #[false,false,true,false,false,false,false,false,false,false,false,false] rfl rfl (any_of HT_.out (by kernel_rfl)) (fun _ _ _ h=>h) (Or.inl ⟨by rfl,?_⟩) ?_ ?_
             rotate_left
             ·intro w'
              go_simp
              with_reducible rfl
             rotate_left
             ·simp only [Act.put,s1_,s2_,s3_,i64_w,i32_w]
              rfl
             refine take_ (i:=0) (N:=some 101) (v:=?_) (a':=?_) #[true,false,true,false,false,false,false,false,false,false,false,false] rfl rfl (take_ofW HT_.out HW_.out (by kernel_rfl)) (fun _ _ _ h=>h) (Or.inl ⟨by rfl,?_⟩) hHeld ?_ ?_
             rotate_left
             ·rintro w' ⟨s0,s1,s2,s3⟩
              go_simp
              with_reducible rfl
             rotate_left
             ·simp only [Act.put,s1_,s2_,s3_,i64_w,i32_w]
              rfl
             refine take_ (i:=4) (N:=some 105) (v:=?_) (a':=?_) #[true,false,true,false,true,false,false,false,false,false,false,false] rfl rfl (take_ofW HT_.out HW_.out (by kernel_rfl)) (fun _ _ _ h=>h) (Or.inl ⟨by rfl,?_⟩) hHeld ?_ ?_
             rotate_left
             ·rintro w' ⟨s0,s1,s2,s3⟩
              go_simp
              with_reducible rfl
             rotate_left
             ·simp only [Act.put,s1_,s2_,s3_,i64_w,i32_w]
              rfl
             refine one_ (i:=1) (N:=some 102) #[true,true,true,false,true,false,false,false,false,false,false,false] rfl rfl (one_of HT_.out (by kernel_rfl)) (by decide) (fun K hK=>?_)
             refine goes_ Try.func10 (by kernel_rfl) rfl #[.agg #[.slice A0_0 l0_0.length c0_0]] (by rfl) rfl rfl lm_ ?_
             with_reducible refine (laws_toTree.calls kj67 _ _ l0_0 t49 _ ?side1 ?side2 A97.1).mono ?_
             (case side1=>exact cc_ (Kd.C_below HR0_0.1 HB.1))
             (case side2=>exact HC0_0.1)
             rintro e w105 ⟨v50,rfl,ho0,hb⟩
             refine ⟨_,rfl,?_⟩
             have n0_:=a0_ (Kd.R_below (rr_ HO_8.1) hb)
             have n1_:=a0_ (Kd.R_below (rr_ HO_12.1) hb)
             have n2_:=a0_ (Kd.R_elder' (rr_ HO_22000.1) (Kd.R_base ho0) hb)
             have n3_:=a0_ (Kd.R_lower (Kd.R_new' ho0 (Kd.R_lt (rr_ HO_22000.1))) (below_size hb_))
             have n4_:=a0_ (blk_below (bb_ BK1.1) hb)
             have n5_:=a0_ (blk_below (bb_ BK2.1) hb)
             have n6_:=a0_ (blk_below (bb_ BK21.1) hb)
             have n7_:=a0_ (below_step hb_ hb)
             clear HO_8
             clear HO_12
             clear HO_22000
             clear BK1
             clear BK2
             clear BK21
             clear HB
             have HO_8:=n0_
             have HO_12:=n1_
             have HO_22000:=n2_
             have HO51:=n3_
             have BK1:=n4_
             have BK2:=n5_
             have BK21:=n6_
             have HB:=n7_
             clear n0_ n1_ n2_ n3_ n4_ n5_ n6_ n7_
             (try clear hb)
             (try clear hb2)
             (try clear hk)
             (try clear hi)
             (try clear ho0)
             refine hK.out _ _ ⟨(blk_cell BK1.1 0).trans rfl,(blk_cell BK2.1 0).trans rfl,(blk_cell BK2.1 1).trans rfl,(blk_cell BK2.1 2).trans rfl⟩ (fun hHeld=>?_)
             clear hK K
             refine norm_ (a':=?_) ?_ ?_
             rotate_left
             ·show Act.put _ (some 102) _ = _
              simp only [Act.put,s1_,s2_,s3_,i64_w,i32_w]
              rfl
             refine one_ (i:=3) (N:=some 104) #[true,true,true,true,true,false,false,false,false,false,false,false] rfl rfl (one_of HT_.out (by kernel_rfl)) (by decide) (fun K hK=>?_)
             refine goes_ Try.func11 (by kernel_rfl) rfl #[.slice A1 l1.length c1] (by rfl) rfl rfl lm_ ?_
             with_reducible refine (laws_toExitS.calls kj67 _ _ l1 t52 _ ?side1 ?side2 A98.1).mono ?_
             (case side1=>exact cc_ (Kd.C_below HR1.1 HB.1))
             (case side2=>exact HC1.1)
             rintro e w106 ⟨v53,rfl,ho0,hb⟩
             refine ⟨_,rfl,?_⟩
             have n0_:=a0_ (Kd.R_elder' (rr_ HO_8.1) (Kd.R_base ho0) hb)
             have n1_:=a0_ (Kd.R_elder' (rr_ HO_12.1) (Kd.R_base ho0) hb)
             have n2_:=a0_ (Kd.R_below (rr_ HO_22000.1) hb)
             have n3_:=a0_ (Kd.R_below (rr_ HO51.1) hb)
             have n4_:=a0_ (Kd.R_lower (Kd.R_new' (Kd.R_new' ho0 (Kd.R_lt (rr_ HO_8.1))) (Kd.R_lt (rr_ HO_12.1))) (below_size hb_))
             have n5_:=a0_ (blk_below (bb_ BK1.1) hb)
             have n6_:=a0_ (blk_below (bb_ BK2.1) hb)
             have n7_:=a0_ (blk_below (bb_ BK21.1) hb)
             have n8_:=a0_ (below_step hb_ hb)
             clear HO_8
             clear HO_12
             clear HO_22000
             clear HO51
             clear BK1
             clear BK2
             clear BK21
             clear HB
             have HO_8:=n0_
             have HO_12:=n1_
             have HO_22000:=n2_
             have HO51:=n3_
             have HO54:=n4_
             have BK1:=n5_
             have BK2:=n6_
             have BK21:=n7_
             have HB:=n8_
             clear n0_ n1_ n2_ n3_ n4_ n5_ n6_ n7_ n8_
             (try clear hb)
             (try clear hb2)
             (try clear hk)
             (try clear hi)
             (try clear ho0)
             refine hK.out _ _ ⟨(blk_cell BK1.1 0).trans rfl,(blk_cell BK2.1 0).trans rfl,(blk_cell BK2.1 1).trans rfl,(blk_cell BK2.1 2).trans rfl⟩ (fun hHeld=>?_)
             clear hK K
             refine norm_ (a':=?_) ?_ ?_
             rotate_left
             ·show Act.put _ (some 104) _ = _
              simp only [Act.put,s1_,s2_,s3_,i64_w,i32_w]
              rfl
             refine one_ (i:=5) (N:=some 106) #[true,true,true,true,true,true,false,false,false,false,false,false] rfl rfl (one_of HT_.out (by kernel_rfl)) (by decide) (fun K hK=>?_)
             refine goes_ Try.func12 (by kernel_rfl) rfl #[.agg #[.int .i64 a2_0,.int .i64 a2_1,.int .i64 a2_2]] (by rfl) rfl rfl lm_ ?_
             with_reducible refine (laws_toExit.calls a2_0 a2_1 a2_2 t55 t56 t57 _ A99.1).mono ?_
             rintro e w107 ⟨rfl,hb⟩
             refine ⟨_,rfl,?_⟩
             have n0_:=a0_ (Kd.R_below (rr_ HO_8.1) hb)
             have n1_:=a0_ (Kd.R_below (rr_ HO_12.1) hb)
             have n2_:=a0_ (Kd.R_below (rr_ HO_22000.1) hb)
             have n3_:=a0_ (Kd.R_below (rr_ HO51.1) hb)
             have n4_:=a0_ (Kd.R_below (rr_ HO54.1) hb)
             have n5_:=a0_ (blk_below (bb_ BK1.1) hb)
             have n6_:=a0_ (blk_below (bb_ BK2.1) hb)
             have n7_:=a0_ (blk_below (bb_ BK21.1) hb)
             have n8_:=a0_ (below_step hb_ hb)
             clear HO_8
             clear HO_12
             clear HO_22000
             clear HO51
             clear HO54
             clear BK1
             clear BK2
             clear BK21
             clear HB
             have HO_8:=n0_
             have HO_12:=n1_
             have HO_22000:=n2_
             have HO51:=n3_
             have HO54:=n4_
             have BK1:=n5_
             have BK2:=n6_
             have BK21:=n7_
             have HB:=n8_
             clear n0_ n1_ n2_ n3_ n4_ n5_ n6_ n7_ n8_
             (try clear hb)
             (try clear hb2)
             (try clear hk)
             (try clear hi)
             obtain ⟨Ao108,co108,eo108⟩:=Kd.R_slice HO51.1
             (first | subst eo108 | (injection eo108 with f1_ f2_ f3_;have f4_:=f1_.symm;have f5_:=f3_.symm;clear f1_ f2_ f3_;subst f4_;subst f5_))
             obtain ⟨Ao109,co109,eo109⟩:=Kd.R_slice HO54.1
             (first | subst eo109 | (injection eo109 with f1_ f2_ f3_;have f4_:=f1_.symm;have f5_:=f3_.symm;clear f1_ f2_ f3_;subst f4_;subst f5_))
             refine hK.out _ _ ⟨(blk_cell BK1.1 0).trans rfl,(blk_cell BK2.1 0).trans rfl,(blk_cell BK2.1 1).trans rfl,(blk_cell BK2.1 2).trans rfl⟩ (fun hHeld=>?_)
             clear hK K
             refine norm_ (a':=?_) ?_ ?_
             rotate_left
             ·show Act.put _ (some 106) _ = _
              simp only [Act.put,s1_,s2_,s3_,i64_w,i32_w]
              rfl
             refine one_ (i:=6) (N:=some 107) #[true,true,true,true,true,true,true,false,false,false,false,false] rfl rfl (one_of HT_.out (by kernel_rfl)) (by decide) (fun K hK=>?_)
             refine goes_ Try.func13 (by kernel_rfl) rfl #[.agg #[.slice Ao108 t49.length co108],.slice Ao109 t52.length co109,.agg #[.int .i64 t55,.int .i64 t56,.int .i64 t57]] (by rfl) rfl rfl lm_ ?_
             with_reducible refine (impl_PushExit.calls _ _ t49 _ _ t52 t55 t56 t57 t58 t61 _ ?side1 ?side2 ?side3 ?side4 A100.1).mono ?_
             (case side1=>repeat (first | exact (Kd.R_reads' HO51.1).2.2 | (with_reducible refine Kd.C_alloc ?_ _) | (with_reducible refine Kd.C_drewN ?_ _) | (with_reducible refine Kd.C_drew ?_)))
             (case side2=>exact (Kd.R_reads' HO51.1).2.1)
             (case side3=>repeat (first | exact (Kd.R_reads' HO54.1).2.2 | (with_reducible refine Kd.C_alloc ?_ _) | (with_reducible refine Kd.C_drewN ?_ _) | (with_reducible refine Kd.C_drew ?_)))
             (case side4=>exact (Kd.R_reads' HO54.1).2.1)
             rintro e w110 ⟨v59,rfl,ho0,hb⟩
             refine ⟨_,rfl,?_⟩
             have n0_:=a0_ (Kd.R_elder' (rr_ HO_8.1) (Kd.R_base ho0) hb)
             have n1_:=a0_ (Kd.R_elder' (rr_ HO_12.1) (Kd.R_base ho0) hb)
             have n2_:=a0_ (Kd.R_below (rr_ HO_22000.1) hb)
             have n3_:=a0_ (Kd.R_below (rr_ HO51.1) hb)
             have n4_:=a0_ (Kd.R_elder' (rr_ HO54.1) (Kd.R_base ho0) hb)
             have n5_:=a0_ (Kd.R_lower (Kd.R_new' (Kd.R_new' (Kd.R_new' ho0 (Kd.R_lt (rr_ HO_8.1))) (Kd.R_lt (rr_ HO_12.1))) (Kd.R_lt (rr_ HO54.1))) (below_size hb_))
             have n6_:=a0_ (blk_below (bb_ BK1.1) hb)
             have n7_:=a0_ (blk_below (bb_ BK2.1) hb)
             have n8_:=a0_ (blk_below (bb_ BK21.1) hb)
             have n9_:=a0_ (below_step hb_ hb)
             clear HO_8
             clear HO_12
             clear HO_22000
             clear HO51
             clear HO54
             clear BK1
             clear BK2
             clear BK21
             clear HB
             have HO_8:=n0_
             have HO_12:=n1_
             have HO_22000:=n2_
             have HO51:=n3_
             have HO54:=n4_
             have HO60:=n5_
             have BK1:=n6_
             have BK2:=n7_
             have BK21:=n8_
             have HB:=n9_
             clear n0_ n1_ n2_ n3_ n4_ n5_ n6_ n7_ n8_ n9_
             (try clear hb)
             (try clear hb2)
             (try clear hk)
             (try clear hi)
             (try clear ho0)
             refine hK.out _ _ ⟨(blk_cell BK1.1 0).trans rfl,(blk_cell BK2.1 0).trans rfl,(blk_cell BK2.1 1).trans rfl,(blk_cell BK2.1 2).trans rfl⟩ (fun hHeld=>?_)
             clear hK K
             refine norm_ (a':=?_) ?_ ?_
             rotate_left
             ·show Act.put _ (some 107) _ = _
              simp only [Act.put,s1_,s2_,s3_,i64_w,i32_w]
              rfl
             refine pure_ (i:=7) (N:=some 100) (v:=?_) (a':=?_) #[true,true,true,true,true,true,true,true,false,false,false,false] rfl rfl (any_of HT_.out (by kernel_rfl)) (fun _ _ _ h=>h) (Or.inl ⟨by rfl,?_⟩) ?_ ?_
             rotate_left
             ·intro w'
              go_simp
              with_reducible rfl
             rotate_left
             ·simp only [Act.put,s1_,s2_,s3_,i64_w,i32_w]
              rfl
             refine pure_ (i:=8) (N:=some 108) (v:=?_) (a':=?_) #[true,true,true,true,true,true,true,true,true,false,false,false] rfl rfl (any_of HT_.out (by kernel_rfl)) (fun _ _ _ h=>h) (Or.inl ⟨by rfl,?_⟩) ?_ ?_
             rotate_left
             ·intro w'
              go_simp
              with_reducible rfl
             rotate_left
             ·simp only [Act.put,s1_,s2_,s3_,i64_w,i32_w]
              rfl
             refine pure_ (i:=9) (N:=some 109) (v:=?_) (a':=?_) #[true,true,true,true,true,true,true,true,true,true,false,false] rfl rfl (any_of HT_.out (by kernel_rfl)) (fun _ _ _ h=>h) (Or.inl ⟨by rfl,?_⟩) ?_ ?_
             rotate_left
             ·intro w'
              go_simp
              with_reducible rfl
             rotate_left
             ·simp only [Act.put,s1_,s2_,s3_,i64_w,i32_w]
              rfl
             refine pure_ (i:=10) (N:=some 17) (v:=?_) (a':=?_) #[true,true,true,true,true,true,true,true,true,true,true,false] rfl rfl (any_of HT_.out (by kernel_rfl)) (fun _ _ _ h=>h) (Or.inl ⟨by rfl,?_⟩) ?_ ?_
             rotate_left
             ·intro w'
              go_simp
              with_reducible rfl
             rotate_left
             ·simp only [Act.put,s1_,s2_,s3_,i64_w,i32_w]
              rfl
             refine pure_ (i:=11) (N:=some 18) (v:=?_) (a':=?_) #[true,true,true,true,true,true,true,true,true,true,true,true] rfl rfl (any_of HT_.out (by kernel_rfl)) (fun _ _ _ h=>h) (Or.inl ⟨by rfl,?_⟩) ?_ ?_
             rotate_left
             ·intro w'
              go_simp
              with_reducible rfl
             rotate_left
             ·simp only [Act.put,s1_,s2_,s3_,i64_w,i32_w]
              rfl
             refine done_ (done_of HT_.out (by kernel_rfl)) ?_
             go_upto_region 32 with (fail)
             go_cut [118] (fun v118 wc=>∃ (kq : Nat) (x118_100 : Bool),v118 = .bool x118_100 ∧ Aside0 (laws_FnExactPushExit.j2 kq t47 t46 x118_100 = some r) ∧ Aside0 (kq ≤ kj67) ∧ Aside0 (Kd.R k38 38 wc w.heap.size (fun _=>True) (.slice Ao102 t28.length co102) t47) ∧ Aside0 (Kd.R k76 76 wc w.heap.size (fun _=>True) (.slice Ao42 t42.length co42) t42) ∧ Aside0 (wc.heap[gb1]? = some (.cells #[(.slice A0_0 l0_0.length c0_0)] 24 (0,0))) ∧ Aside0 (wc.heap[gb2]? = some (.cells #[.int .i64 a2_0,.int .i64 a2_1,.int .i64 a2_2] 27 (0,0))) ∧ Aside0 (wc.heap[gb21]? = some (.cells #[(.slice Ao42 t42.length co42)] 35 (0,0))) ∧ Aside0 (Below w.heap.size w wc))
             case first =>
              have H:=HC101.1
              clear HC101
              replace H:=Option.bind_eq_some_iff.mp H
              obtain ⟨t62,A1110,H⟩:=H
              replace H : (if t62 = true then (laws_FnExactPushExit.j2 kj67 t47 t46 (t61 != t17)) else (laws_FnExactPushExit.j2 kj67 t47 t46 true)) = some r:=H
              have A111:=a0_ A1110
              clear A1110
              by_cases c112 : t62 = true
              ·subst c112
               have H1 : (laws_FnExactPushExit.j2 kj67 t47 t46 (t61 != t17)) = some r:=by rw [if_pos rfl] at H;exact H
               clear H
               have H:=H1
               clear H1
               have H':=a0_ H
               clear H
               obtain ⟨Ao113,co113,eo113⟩:=Kd.R_slice HO60.1
               subst eo113
               obtain ⟨Ao114,co114,eo114⟩:=Kd.R_slice HO_8.1
               subst eo114
               go_wp2_with (first | ((with_reducible refine gate_callee (f:=14) rfl ?_);refine goesL_ (some 112) rfl rfl Try.func14 (by kernel_rfl) rfl #[.slice Ao113 t58.length co113,.slice Ao114 t14.length co114] rfl lm_ ?_;(with_reducible refine (laws_eqExitS.calls kj67 _ _ t58 _ _ t14 true _ ?side1 ?side2 ?side3 ?side4 A111.1).mono ?_);(case side1=>repeat (first | exact (Kd.R_reads' HO60.1).2.2 | (with_reducible refine Kd.C_alloc ?_ _) | (with_reducible refine Kd.C_drewN ?_ _) | (with_reducible refine Kd.C_drew ?_)));(case side2=>exact (Kd.R_reads' HO60.1).2.1);(case side3=>repeat (first | exact (Kd.R_reads' HO_8.1).2.2 | (with_reducible refine Kd.C_alloc ?_ _) | (with_reducible refine Kd.C_drewN ?_ _) | (with_reducible refine Kd.C_drew ?_)));(case side4=>exact (Kd.R_reads' HO_8.1).2.1);rintro e w115 ⟨rfl,hb⟩;refine ⟨_,rfl,?_⟩;have n0_:=a0_ (Kd.R_below (rr_ HO_8.1) hb);have n1_:=a0_ (Kd.R_below (rr_ HO_12.1) hb);have n2_:=a0_ (Kd.R_below (rr_ HO_22000.1) hb);have n3_:=a0_ (Kd.R_below (rr_ HO51.1) hb);have n4_:=a0_ (Kd.R_below (rr_ HO54.1) hb);have n5_:=a0_ (Kd.R_below (rr_ HO60.1) hb);have n6_:=a0_ (blk_below (bb_ BK1.1) hb);have n7_:=a0_ (blk_below (bb_ BK2.1) hb);have n8_:=a0_ (blk_below (bb_ BK21.1) hb);have n9_:=a0_ (below_step hb_ hb);clear HO_8 HO_12;clear HO_22000 HO51;clear HO54 HO60;clear BK1 BK2;clear BK21 HB;have HO_8:=n0_;have HO_12:=n1_;have HO_22000:=n2_;have HO51:=n3_;have HO54:=n4_;have HO60:=n5_;have BK1:=n6_;have BK2:=n7_;have BK21:=n8_;have HB:=n9_;clear n0_ n1_ n2_ n3_ n4_ n5_ n6_ n7_ n8_ n9_;(try clear hb);(try clear hb2);(try clear hk);(try clear hi)))
               go_meet
               case rel=>exact ⟨_,((t61 != t17)),(by first | rfl | (simp;done) | (simp [*];done)),H',⟨by have:=HJ25.out;have:=HJ67.out;first | omega | exact Nat.le_refl _⟩,⟨by (try simp only [hl22000_67]);(with_reducible repeat (first | apply Kd.R_alloc | apply Kd.R_drewN | apply Kd.R_drew));exact Kd.R_mono HO_12.1 (fun _ hk=>trivial)⟩,⟨by (try simp only [hl22000_67]);(with_reducible repeat (first | apply Kd.R_alloc | apply Kd.R_drewN | apply Kd.R_drew));exact Kd.R_mono HO_22000.1 (fun _ hk=>trivial)⟩,⟨by (try simp only [hl22000_67]);(with_reducible repeat (first | refine blk_drewN ?_ _ | refine blk_drew ?_ | refine blk_alloc ?_ _));exact BK1.1⟩,⟨by (try simp only [hl22000_67]);(with_reducible repeat (first | refine blk_drewN ?_ _ | refine blk_drew ?_ | refine blk_alloc ?_ _));exact BK2.1⟩,⟨by (try simp only [hl22000_67]);(with_reducible repeat (first | refine blk_drewN ?_ _ | refine blk_drew ?_ | refine blk_alloc ?_ _));exact BK21.1⟩,⟨hb_⟩⟩
              ·replace c112:=Bool.eq_false_iff.mpr c112
               subst c112
               have H1 : (laws_FnExactPushExit.j2 kj67 t47 t46 true) = some r:=by rw [if_neg (show ¬ (false = true) by decide)] at H;exact H
               clear H
               have H:=H1
               clear H1
               have H':=a0_ H
               clear H
               obtain ⟨Ao116,co116,eo116⟩:=Kd.R_slice HO60.1
               subst eo116
               obtain ⟨Ao117,co117,eo117⟩:=Kd.R_slice HO_8.1
               subst eo117
               go_wp2_with (first | ((with_reducible refine gate_callee (f:=14) rfl ?_);refine goesL_ (some 112) rfl rfl Try.func14 (by kernel_rfl) rfl #[.slice Ao116 t58.length co116,.slice Ao117 t14.length co117] rfl lm_ ?_;(with_reducible refine (laws_eqExitS.calls kj67 _ _ t58 _ _ t14 false _ ?side1 ?side2 ?side3 ?side4 A111.1).mono ?_);(case side1=>repeat (first | exact (Kd.R_reads' HO60.1).2.2 | (with_reducible refine Kd.C_alloc ?_ _) | (with_reducible refine Kd.C_drewN ?_ _) | (with_reducible refine Kd.C_drew ?_)));(case side2=>exact (Kd.R_reads' HO60.1).2.1);(case side3=>repeat (first | exact (Kd.R_reads' HO_8.1).2.2 | (with_reducible refine Kd.C_alloc ?_ _) | (with_reducible refine Kd.C_drewN ?_ _) | (with_reducible refine Kd.C_drew ?_)));(case side4=>exact (Kd.R_reads' HO_8.1).2.1);rintro e w118 ⟨rfl,hb⟩;refine ⟨_,rfl,?_⟩;have n0_:=a0_ (Kd.R_below (rr_ HO_8.1) hb);have n1_:=a0_ (Kd.R_below (rr_ HO_12.1) hb);have n2_:=a0_ (Kd.R_below (rr_ HO_22000.1) hb);have n3_:=a0_ (Kd.R_below (rr_ HO51.1) hb);have n4_:=a0_ (Kd.R_below (rr_ HO54.1) hb);have n5_:=a0_ (Kd.R_below (rr_ HO60.1) hb);have n6_:=a0_ (blk_below (bb_ BK1.1) hb);have n7_:=a0_ (blk_below (bb_ BK2.1) hb);have n8_:=a0_ (blk_below (bb_ BK21.1) hb);have n9_:=a0_ (below_step hb_ hb);clear HO_8 HO_12;clear HO_22000 HO51;clear HO54 HO60;clear BK1 BK2;clear BK21 HB;have HO_8:=n0_;have HO_12:=n1_;have HO_22000:=n2_;have HO51:=n3_;have HO54:=n4_;have HO60:=n5_;have BK1:=n6_;have BK2:=n7_;have BK21:=n8_;have HB:=n9_;clear n0_ n1_ n2_ n3_ n4_ n5_ n6_ n7_ n8_ n9_;(try clear hb);(try clear hb2);(try clear hk);(try clear hi)))
               go_meet
               case rel=>exact ⟨_,(true),(by first | rfl | (simp;done) | (simp [*];done)),H',⟨by have:=HJ25.out;have:=HJ67.out;first | omega | exact Nat.le_refl _⟩,⟨by (try simp only [hl22000_67]);(with_reducible repeat (first | apply Kd.R_alloc | apply Kd.R_drewN | apply Kd.R_drew));exact Kd.R_mono HO_12.1 (fun _ hk=>trivial)⟩,⟨by (try simp only [hl22000_67]);(with_reducible repeat (first | apply Kd.R_alloc | apply Kd.R_drewN | apply Kd.R_drew));exact Kd.R_mono HO_22000.1 (fun _ hk=>trivial)⟩,⟨by (try simp only [hl22000_67]);(with_reducible repeat (first | refine blk_drewN ?_ _ | refine blk_drew ?_ | refine blk_alloc ?_ _));exact BK1.1⟩,⟨by (try simp only [hl22000_67]);(with_reducible repeat (first | refine blk_drewN ?_ _ | refine blk_drew ?_ | refine blk_alloc ?_ _));exact BK2.1⟩,⟨by (try simp only [hl22000_67]);(with_reducible repeat (first | refine blk_drewN ?_ _ | refine blk_drew ?_ | refine blk_alloc ?_ _));exact BK21.1⟩,⟨hb_⟩⟩
             case rest =>
              clear HC101
              try clear c1
              try clear c2
              try clear p2
              try clear c3
              try clear c4
              try clear c5
              try clear c5b0
              try clear c6
              try clear c7
              try clear c8
              try clear c9
              try clear c10
              try clear c11
              try clear c12
              try clear c12b0
              try clear c13
              try clear c14
              try clear c15
              try clear c16
              try clear c17
              try clear c18
              try clear c29
              try clear c43
              try clear c44
              try clear c52
              try clear c59
              try clear c62
              try clear c65
              try clear c76
              try clear c77
              try clear c81
              try clear c81b0
              try clear c83
              try clear c90
              try clear c93
              try clear c93b0
              try clear c96
              try clear c96b0
              try clear c96b1
              try clear c112
              try clear hcz16_0
              try clear hcz30_0
              try clear hcz39_0
              try clear hcz45_0
              try clear hcz78_0
              try clear hcz9_0
              try clear hfz16_0
              try clear hfz30_0
              try clear hfz39_0
              try clear hfz45_0
              try clear hfz78_0
              try clear hfz9_0
              try clear p2
              obtain ⟨kq,x118_100,rfl,HA,HJ100,HO_12,HO_22000,BK1,BK2,BK21,HB⟩:=hcut
              have hl12_100:=(Kd.R_reads' HO_12.1).1
              rw [hl12_100] at HO_12
              (try simp only [hl12_100])
              (try simp only [hl12_100] at BK1)
              (try simp only [hl12_100] at BK2)
              (try simp only [hl12_100] at BK21)
              (try simp only [hl12_100] at HO_22000)
              cases kq with
              | zero=>exact absurd HA.out (by simp [laws_FnExactPushExit.j2])
              | succ kj100 =>
               have H:=HA.out
               clear HA
               simp only [laws_FnExactPushExit.j2] at H
               by_cases c119 : x118_100 = true
               ·subst c119
                have H1 : (some false) = some r:=by rw [if_pos rfl] at H;exact H
                clear H
                have H:=H1
                clear H1
                obtain rfl:=Option.some.inj H
                go_wp2
                go_ret
                exact ⟨by first | rfl | (simp [errW_none,errW_some] <;> rfl) | (simp [*,errW_none,errW_some] <;> rfl),hb_⟩
               ·replace c119:=Bool.eq_false_iff.mpr c119
                subst c119
                have H1 : ((laws_heldExitS.f kj100 t47 1).bind fun t63=>(if t63 < 0 then (some false) else (if t63 = t46 then (some true) else (some false)))) = some r:=by rw [if_neg (show ¬ (false = true) by decide)] at H;exact H
                clear H
                have H:=H1
                clear H1
                replace H:=Option.bind_eq_some_iff.mp H
                obtain ⟨t63,A1200,H⟩:=H
                replace H : (if t63 < 0 then (some false) else (if t63 = t46 then (some true) else (some false))) = some r:=H
                have A120:=a0_ A1200
                clear A1200
                by_cases c121 : t63 < 0
                ·rw [if_pos c121] at H
                 have c121b0 : decide (t63 < 0) = true:=decide_eq_true c121
                 clear c121
                 obtain rfl:=Option.some.inj H
                 go_wp2_with (first | ((with_reducible refine gate_callee (f:=18) rfl ?_);refine goesL_ (some 121) rfl rfl Try.func18 (by kernel_rfl) rfl #[.slice Ao102 t47.length co102,.int .i64 1] rfl lm_ ?_;(with_reducible refine (laws_heldExitS.calls kj100 _ _ t47 1 t63 _ ?side1 ?side2 A120.1).mono ?_);(case side1=>repeat (first | exact (Kd.R_reads' HO_12.1).2.2 | (with_reducible refine Kd.C_alloc ?_ _) | (with_reducible refine Kd.C_drewN ?_ _) | (with_reducible refine Kd.C_drew ?_)));(case side2=>exact (Kd.R_reads' HO_12.1).2.1);rintro e w' ⟨rfl,⟨nd,rfl⟩⟩;refine ⟨_,rfl,?_⟩))
                 go_ret
                 exact ⟨by first | rfl | (simp [errW_none,errW_some] <;> rfl) | (simp [*,errW_none,errW_some] <;> rfl),hb_⟩
                ·rw [if_neg c121] at H
                 have c121b0 : decide (t63 < 0) = false:=decide_eq_false c121
                 clear c121
                 by_cases c122 : t63 = t46
                 ·rw [if_pos c122] at H
                  have c122b0 : (t63 == t46) = true:=beq_iff_eq.mpr c122
                  have c122b1 : (t63 != t46) = false:=bne_eq_false_iff_eq.mpr c122
                  clear c122
                  obtain rfl:=Option.some.inj H
                  go_wp2_with (first | ((with_reducible refine gate_callee (f:=18) rfl ?_);refine goesL_ (some 121) rfl rfl Try.func18 (by kernel_rfl) rfl #[.slice Ao102 t47.length co102,.int .i64 1] rfl lm_ ?_;(with_reducible refine (laws_heldExitS.calls kj100 _ _ t47 1 t63 _ ?side1 ?side2 A120.1).mono ?_);(case side1=>repeat (first | exact (Kd.R_reads' HO_12.1).2.2 | (with_reducible refine Kd.C_alloc ?_ _) | (with_reducible refine Kd.C_drewN ?_ _) | (with_reducible refine Kd.C_drew ?_)));(case side2=>exact (Kd.R_reads' HO_12.1).2.1);rintro e w' ⟨rfl,⟨nd,rfl⟩⟩;refine ⟨_,rfl,?_⟩))
                  go_ret
                  exact ⟨by first | rfl | (simp [errW_none,errW_some] <;> rfl) | (simp [*,errW_none,errW_some] <;> rfl),hb_⟩
                 ·rw [if_neg c122] at H
                  have c122b0 : (t63 == t46) = false:=beq_eq_false_iff_ne.mpr c122
                  have c122b1 : (t63 != t46) = true:=bne_iff_ne.mpr c122
                  obtain rfl:=Option.some.inj H
                  go_wp2_with (first | ((with_reducible refine gate_callee (f:=18) rfl ?_);refine goesL_ (some 121) rfl rfl Try.func18 (by kernel_rfl) rfl #[.slice Ao102 t47.length co102,.int .i64 1] rfl lm_ ?_;(with_reducible refine (laws_heldExitS.calls kj100 _ _ t47 1 t63 _ ?side1 ?side2 A120.1).mono ?_);(case side1=>repeat (first | exact (Kd.R_reads' HO_12.1).2.2 | (with_reducible refine Kd.C_alloc ?_ _) | (with_reducible refine Kd.C_drewN ?_ _) | (with_reducible refine Kd.C_drew ?_)));(case side2=>exact (Kd.R_reads' HO_12.1).2.1);rintro e w' ⟨rfl,⟨nd,rfl⟩⟩;refine ⟨_,rfl,?_⟩))
                  go_ret
                  exact ⟨by first | rfl | (simp [errW_none,errW_some] <;> rfl) | (simp [*,errW_none,errW_some] <;> rfl),hb_⟩
            ·rw [if_neg c96] at H
             have c96b0 : (t48 == t46) = false:=beq_eq_false_iff_ne.mpr c96
             have c96b1 : (t48 != t46) = true:=bne_iff_ne.mpr c96
             obtain rfl:=Option.some.inj H
             obtain ⟨Ao123,co123,eo123⟩:=Kd.R_slice HO_12.1
             subst eo123
             go_wp2_with (first | ((with_reducible refine gate_callee (f:=17) rfl ?_);refine goesL_ (some 91) rfl rfl Try.func17 (by kernel_rfl) rfl #[.slice Ao123 t28.length co123,.int .i64 1] rfl lm_ ?_;(with_reducible refine (laws_markExitS.calls kj67 (fun k_=>some k_ = (.slice Ao123 t28.length co123 : Value).ownBlock) (.slice Ao123 t28.length co123) t28 1 t46 t47 w _ ?side1 ?side2 A91.1).mono ?_);(case side1=>repeat (first | (with_reducible first | exact HB.1 | apply below_alloc | apply pw_below_drewN | apply below_drew1 | refine below_set ?_ GE1.1 | refine below_set ?_ GE2.1 | refine below_set ?_ GE21.1) | exact HB.1));(case side2=>exact Kd.R_tight rfl HO_12.1);rintro e w124 ⟨rfl,hy0,hb,hkp⟩;refine ⟨_,rfl,?_⟩;have n0_:=a0_ (Kd.R_mono (ok':=fun k_=>some k_ ≠ (.slice Ao123 t28.length co123 : Value).ownBlock) (Kd.R_keptB (HO_8.1) hkp (fun k_ hk_ hs_=>(hk_) hs_)) (fun k_ hk_=>hk_.1));have n1_:=a0_ (Kd.R_reok rfl hy0 (fun k_ e_=>HO_12.1.1 k_ e_));have n2_:=a0_ (Kd.R_mono (ok':=fun k_=>True) (Kd.R_keptB ((Kd.R_apart' HO_22000.1 (Kd.R_typed HO_12.1) (by decide))) hkp (fun k_ hk_ hs_=>(hk_.2) hs_)) (fun k_ hk_=>trivial));have n3_:=a0_ (blk_kept (bb_ BK1.1) hkp (fun hs_=>(fun e_=>(Kd.R_ne HO_12.1 BK1.1 (by decide)) e_) hs_));have n4_:=a0_ (blk_kept (bb_ BK2.1) hkp (fun hs_=>(fun e_=>(Kd.R_ne HO_12.1 BK2.1 (by decide)) e_) hs_));have n5_:=a0_ (blk_kept (bb_ BK21.1) hkp (fun hs_=>(fun e_=>(Kd.R_ne HO_12.1 BK21.1 (by decide)) e_) hs_));have n6_:=a0_ (hb);clear HO_8 HO_12;clear HO_22000 BK1;clear BK2 BK21 HB;have HO_8:=n0_;have HO_12:=n1_;have HO_22000:=n2_;have BK1:=n3_;have BK2:=n4_;have BK21:=n5_;have HB:=n6_;clear n0_ n1_ n2_ n3_ n4_ n5_ n6_;(try clear hb);(try clear hkp);(try clear hy0)) | ((with_reducible refine gate_callee (f:=18) rfl ?_);refine goesL_ (some 94) rfl rfl Try.func18 (by kernel_rfl) rfl #[.slice Ao123 t47.length co123,.int .i64 1] rfl (by (try simp only [List.map_toArray,List.map_cons,List.map_nil]);first | done | (rw [show t47.length = t28.length from (Kd.R_reads' HO_12.1).1.symm] <;> rfl) | rfl | (simp only [List.length_drop,List.length_take];rfl)) ?_;(with_reducible refine (laws_heldExitS.calls kj67 _ _ t47 1 t48 _ ?side1 ?side2 A92.1).mono ?_);(case side1=>repeat (first | exact (Kd.R_reads' HO_12.1).2.2 | (with_reducible refine Kd.C_alloc ?_ _) | (with_reducible refine Kd.C_drewN ?_ _) | (with_reducible refine Kd.C_drew ?_)));(case side2=>rw [show t47.length = t28.length from (Kd.R_reads' HO_12.1).1.symm];exact (Kd.R_reads' HO_12.1).2.1);rintro e w' ⟨rfl,⟨nd,rfl⟩⟩;refine ⟨_,rfl,?_⟩))
             go_ret
             exact ⟨by first | rfl | (simp [errW_none,errW_some] <;> rfl) | (simp [*,errW_none,errW_some] <;> rfl),hb_⟩
       ·replace c65:=Bool.eq_false_iff.mpr c65
        subst c65
        have H1 : (some false) = some r:=by rw [if_neg (show ¬ (false = true) by decide)] at H;exact H
        clear H
        have H:=H1
        clear H1
        obtain rfl:=Option.some.inj H
        try go_wp2
        have n0_:=a0_ (Kd.R_drew HO_8.1)
        have n1_:=a0_ (Kd.R_drew HO_11.1)
        have n2_:=a0_ (Kd.R_drew HO_12.1)
        have n3_:=a0_ (Kd.R_drew HO_22000.1)
        have n4_:=a0_ (blk_drew BK1.1)
        have n5_:=a0_ (blk_drew BK2.1)
        have n6_:=a0_ (blk_drew BK21.1)
        have n7_:=a0_ (below_drew1 HB.1)
        clear HO_8
        clear HO_11
        clear HO_12
        clear HO_22000
        clear BK1
        clear BK2
        clear BK21
        clear HB
        have HO_8:=n0_
        have HO_11:=n1_
        have HO_12:=n2_
        have HO_22000:=n3_
        have BK1:=n4_
        have BK2:=n5_
        have BK21:=n6_
        have HB:=n7_
        clear n0_ n1_ n2_ n3_ n4_ n5_ n6_ n7_
        refine start_ (n:=5) (S:=fun w'=>w'.cell? ⟨gb21,0,none⟩ = some (.slice Ao42 t18.length co42) ∧ w'.cell? ⟨gb1,0,none⟩ = some (.slice A0_0 l0_0.length c0_0)) (ds:=[]) #[false,false,false,false,false] (by kernel_rfl) rfl rfl ⟨(blk_cell BK21.1 0).trans rfl,(blk_cell BK1.1 0).trans rfl⟩ (fun hHeld=>?_)
        generalize wc.drew = w125 at HO_8 HO_11 HO_12 HO_22000 BK1 BK2 BK21 HB hHeld ⊢
        refine take_ (i:=0) (N:=some 60) (v:=?_) (a':=?_) #[true,false,false,false,false] rfl rfl (by kernel_rfl) (fun _ _ _ h=>h) (Or.inl ⟨by rfl,?_⟩) hHeld ?_ ?_
        rotate_left
        ·rintro w' ⟨s0,s1⟩
         go_simp
         with_reducible rfl
        rotate_left
        ·simp only [Act.put,s1_,s2_,s3_,i64_w,i32_w]
         rfl
        refine take_ (i:=1) (N:=some 61) (v:=?_) (a':=?_) #[true,true,false,false,false] rfl rfl (by kernel_rfl) (fun _ _ _ h=>h) (Or.inl ⟨by rfl,?_⟩) hHeld ?_ ?_
        rotate_left
        ·rintro w' ⟨s0,s1⟩
         go_simp
         with_reducible rfl
        rotate_left
        ·simp only [Act.put,s1_,s2_,s3_,i64_w,i32_w]
         rfl
        refine one_ (i:=2) (N:=some 62) #[true,true,true,false,false] rfl rfl (by kernel_rfl) (by decide) (fun K hK=>?_)
        refine goes_ Try.func10 (by kernel_rfl) rfl #[.agg #[.slice A0_0 l0_0.length c0_0]] (by rfl) rfl rfl lm_ ?_
        with_reducible refine (laws_toTree.calls kj25 _ _ l0_0 t33 _ ?side1 ?side2 A60.1).mono ?_
        (case side1=>exact cc_ (Kd.C_below HR0_0.1 HB.1))
        (case side2=>exact HC0_0.1)
        rintro e w126 ⟨v34,rfl,ho0,hb⟩
        refine ⟨_,rfl,?_⟩
        have n0_:=a0_ (Kd.R_below (rr_ HO_8.1) hb)
        have n1_:=a0_ (Kd.R_below (rr_ HO_11.1) hb)
        have n2_:=a0_ (Kd.R_below (rr_ HO_12.1) hb)
        have n3_:=a0_ (Kd.R_elder' (rr_ HO_22000.1) (Kd.R_base ho0) hb)
        have n4_:=a0_ (Kd.R_lower (Kd.R_new' ho0 (Kd.R_lt (rr_ HO_22000.1))) (below_size hb_))
        have n5_:=a0_ (blk_below (bb_ BK1.1) hb)
        have n6_:=a0_ (blk_below (bb_ BK2.1) hb)
        have n7_:=a0_ (blk_below (bb_ BK21.1) hb)
        have n8_:=a0_ (below_step hb_ hb)
        clear HO_8
        clear HO_11
        clear HO_12
        clear HO_22000
        clear BK1
        clear BK2
        clear BK21
        clear HB
        have HO_8:=n0_
        have HO_11:=n1_
        have HO_12:=n2_
        have HO_22000:=n3_
        have HO35:=n4_
        have BK1:=n5_
        have BK2:=n6_
        have BK21:=n7_
        have HB:=n8_
        clear n0_ n1_ n2_ n3_ n4_ n5_ n6_ n7_ n8_
        (try clear hb)
        (try clear hb2)
        (try clear hk)
        (try clear hi)
        (try clear ho0)
        obtain ⟨Ao127,co127,eo127⟩:=Kd.R_slice HO35.1
        (first | subst eo127 | (injection eo127 with f1_ f2_ f3_;have f4_:=f1_.symm;have f5_:=f3_.symm;clear f1_ f2_ f3_;subst f4_;subst f5_))
        refine hK.out _ _ ⟨(blk_cell BK21.1 0).trans rfl,(blk_cell BK1.1 0).trans rfl⟩ (fun hHeld=>?_)
        clear hK K
        refine norm_ (a':=?_) ?_ ?_
        rotate_left
        ·show Act.put _ (some 62) _ = _
         simp only [Act.put,s1_,s2_,s3_,i64_w,i32_w]
         rfl
        refine one_ (i:=3) (N:=some 63) #[true,true,true,true,false] rfl rfl (by kernel_rfl) (by decide) (fun K hK=>?_)
        refine goes_ Try.func15 (by kernel_rfl) rfl #[.agg #[.slice Ao42 t18.length co42],.agg #[.slice Ao127 t33.length co127]] (by rfl) rfl rfl lm_ ?_
        with_reducible refine (laws_eqTree.calls kj25 _ _ t18 _ _ t33 true _ ?side1 ?side2 ?side3 ?side4 A61.1).mono ?_
        (case side1=>repeat (first | exact (Kd.R_reads' HO_22000.1).2.2 | (with_reducible refine Kd.C_alloc ?_ _) | (with_reducible refine Kd.C_drewN ?_ _) | (with_reducible refine Kd.C_drew ?_)))
        (case side2=>exact (Kd.R_reads' HO_22000.1).2.1)
        (case side3=>repeat (first | exact (Kd.R_reads' HO35.1).2.2 | (with_reducible refine Kd.C_alloc ?_ _) | (with_reducible refine Kd.C_drewN ?_ _) | (with_reducible refine Kd.C_drew ?_)))
        (case side4=>exact (Kd.R_reads' HO35.1).2.1)
        rintro e w128 ⟨rfl,hb⟩
        refine ⟨_,rfl,?_⟩
        have n0_:=a0_ (Kd.R_below (rr_ HO_8.1) hb)
        have n1_:=a0_ (Kd.R_below (rr_ HO_11.1) hb)
        have n2_:=a0_ (Kd.R_below (rr_ HO_12.1) hb)
        have n3_:=a0_ (Kd.R_below (rr_ HO_22000.1) hb)
        have n4_:=a0_ (Kd.R_below (rr_ HO35.1) hb)
        have n5_:=a0_ (blk_below (bb_ BK1.1) hb)
        have n6_:=a0_ (blk_below (bb_ BK2.1) hb)
        have n7_:=a0_ (blk_below (bb_ BK21.1) hb)
        have n8_:=a0_ (below_step hb_ hb)
        clear HO_8
        clear HO_11
        clear HO_12
        clear HO_22000
        clear HO35
        clear BK1
        clear BK2
        clear BK21
        clear HB
        have HO_8:=n0_
        have HO_11:=n1_
        have HO_12:=n2_
        have HO_22000:=n3_
        have HO35:=n4_
        have BK1:=n5_
        have BK2:=n6_
        have BK21:=n7_
        have HB:=n8_
        clear n0_ n1_ n2_ n3_ n4_ n5_ n6_ n7_ n8_
        (try clear hb)
        (try clear hb2)
        (try clear hk)
        (try clear hi)
        refine hK.out _ _ ⟨(blk_cell BK21.1 0).trans rfl,(blk_cell BK1.1 0).trans rfl⟩ (fun hHeld=>?_)
        clear hK K
        refine norm_ (a':=?_) ?_ ?_
        rotate_left
        ·show Act.put _ (some 63) _ = _
         simp only [Act.put,s1_,s2_,s3_,i64_w,i32_w]
         rfl
        refine pure_ (i:=4) (N:=some 64) (v:=?_) (a':=?_) #[true,true,true,true,true] rfl rfl (by kernel_rfl) (fun _ _ _ h=>h) (Or.inl ⟨by rfl,?_⟩) ?_ ?_
        rotate_left
        ·intro w'
         go_simp
         with_reducible rfl
        rotate_left
        ·simp only [Act.put,s1_,s2_,s3_,i64_w,i32_w]
         rfl
        refine done_ (by kernel_rfl) ?_
        try go_wp2_with (first | ((with_reducible refine gate_callee (f:=11) rfl ?_);refine goesL_ (some 67) rfl rfl Try.func11 (by kernel_rfl) rfl #[.slice A1 l1.length c1] rfl lm_ ?_;(with_reducible refine (laws_toExitS.calls kj25 _ _ l1 t37 _ ?side1 ?side2 A63.1).mono ?_);(case side1=>exact cc_ (Kd.C_below HR1.1 HB.1));(case side2=>exact HC1.1);rintro e w129 ⟨v38,rfl,ho0,hb⟩;refine ⟨_,rfl,?_⟩;have n0_:=a0_ (Kd.R_elder' (rr_ HO_8.1) (Kd.R_base ho0) hb);have n1_:=a0_ (Kd.R_elder' (rr_ HO_11.1) (Kd.R_base ho0) hb);have n2_:=a0_ (Kd.R_elder' (rr_ HO_12.1) (Kd.R_base ho0) hb);have n3_:=a0_ (Kd.R_below (rr_ HO_22000.1) hb);have n4_:=a0_ (Kd.R_below (rr_ HO35.1) hb);have n5_:=a0_ (Kd.R_lower (Kd.R_new' (Kd.R_new' (Kd.R_new' ho0 (Kd.R_lt (rr_ HO_8.1))) (Kd.R_lt (rr_ HO_11.1))) (Kd.R_lt (rr_ HO_12.1))) (below_size hb_));have n6_:=a0_ (blk_below (bb_ BK1.1) hb);have n7_:=a0_ (blk_below (bb_ BK2.1) hb);have n8_:=a0_ (blk_below (bb_ BK21.1) hb);have n9_:=a0_ (below_step hb_ hb);clear HO_8 HO_11;clear HO_12 HO_22000;clear HO35 BK1;clear BK2 BK21 HB;have HO_8:=n0_;have HO_11:=n1_;have HO_12:=n2_;have HO_22000:=n3_;have HO35:=n4_;have HO39:=n5_;have BK1:=n6_;have BK2:=n7_;have BK21:=n8_;have HB:=n9_;clear n0_ n1_ n2_ n3_ n4_ n5_ n6_ n7_ n8_ n9_;(try clear hb);(try clear hb2);(try clear hk);(try clear hi);(try clear ho0);obtain ⟨Ao130,co130,eo130⟩:=Kd.R_slice HO39.1;subst eo130) | ((with_reducible refine gate_callee (f:=14) rfl ?_);refine goesL_ (some 68) rfl rfl Try.func14 (by kernel_rfl) rfl #[.slice Ao49 t22.length co49,.slice Ao130 t37.length co130] rfl lm_ ?_;(with_reducible refine (laws_eqExitS.calls kj25 _ _ t22 _ _ t37 false _ ?side1 ?side2 ?side3 ?side4 A64.1).mono ?_);(case side1=>repeat (first | exact (Kd.R_reads' HO_11.1).2.2 | (with_reducible refine Kd.C_alloc ?_ _) | (with_reducible refine Kd.C_drewN ?_ _) | (with_reducible refine Kd.C_drew ?_)));(case side2=>exact (Kd.R_reads' HO_11.1).2.1);(case side3=>repeat (first | exact (Kd.R_reads' HO39.1).2.2 | (with_reducible refine Kd.C_alloc ?_ _) | (with_reducible refine Kd.C_drewN ?_ _) | (with_reducible refine Kd.C_drew ?_)));(case side4=>exact (Kd.R_reads' HO39.1).2.1);rintro e w131 ⟨rfl,hb⟩;refine ⟨_,rfl,?_⟩;have n0_:=a0_ (Kd.R_below (rr_ HO_8.1) hb);have n1_:=a0_ (Kd.R_below (rr_ HO_11.1) hb);have n2_:=a0_ (Kd.R_below (rr_ HO_12.1) hb);have n3_:=a0_ (Kd.R_below (rr_ HO_22000.1) hb);have n4_:=a0_ (Kd.R_below (rr_ HO35.1) hb);have n5_:=a0_ (Kd.R_below (rr_ HO39.1) hb);have n6_:=a0_ (blk_below (bb_ BK1.1) hb);have n7_:=a0_ (blk_below (bb_ BK2.1) hb);have n8_:=a0_ (blk_below (bb_ BK21.1) hb);have n9_:=a0_ (below_step hb_ hb);clear HO_8 HO_11;clear HO_12 HO_22000;clear HO35 HO39;clear BK1 BK2;clear BK21 HB;have HO_8:=n0_;have HO_11:=n1_;have HO_12:=n2_;have HO_22000:=n3_;have HO35:=n4_;have HO39:=n5_;have BK1:=n6_;have BK2:=n7_;have BK21:=n8_;have HB:=n9_;clear n0_ n1_ n2_ n3_ n4_ n5_ n6_ n7_ n8_ n9_;(try clear hb);(try clear hb2);(try clear hk);(try clear hi)))
        go_ret
        exact ⟨by first | rfl | (simp [errW_none,errW_some] <;> rfl) | (simp [*,errW_none,errW_some] <;> rfl),hb_⟩
      ·replace c62:=Bool.eq_false_iff.mpr c62
       subst c62
       have H1 : (some false) = some r:=by rw [if_neg (show ¬ (false = true) by decide)] at H;exact H
       clear H
       have H:=H1
       clear H1
       obtain rfl:=Option.some.inj H
       try go_wp2
       have n0_:=a0_ (Kd.R_drew HO_8.1)
       have n1_:=a0_ (Kd.R_drew HO_11.1)
       have n2_:=a0_ (Kd.R_drew HO_12.1)
       have n3_:=a0_ (Kd.R_drew HO_22000.1)
       have n4_:=a0_ (blk_drew BK1.1)
       have n5_:=a0_ (blk_drew BK2.1)
       have n6_:=a0_ (blk_drew BK21.1)
       have n7_:=a0_ (below_drew1 HB.1)
       clear HO_8
       clear HO_11
       clear HO_12
       clear HO_22000
       clear BK1
       clear BK2
       clear BK21
       clear HB
       have HO_8:=n0_
       have HO_11:=n1_
       have HO_12:=n2_
       have HO_22000:=n3_
       have BK1:=n4_
       have BK2:=n5_
       have BK21:=n6_
       have HB:=n7_
       clear n0_ n1_ n2_ n3_ n4_ n5_ n6_ n7_
       refine start_ (n:=5) (S:=fun w'=>w'.cell? ⟨gb21,0,none⟩ = some (.slice Ao42 t18.length co42) ∧ w'.cell? ⟨gb1,0,none⟩ = some (.slice A0_0 l0_0.length c0_0)) (ds:=[]) #[false,false,false,false,false] (by kernel_rfl) rfl rfl ⟨(blk_cell BK21.1 0).trans rfl,(blk_cell BK1.1 0).trans rfl⟩ (fun hHeld=>?_)
       generalize wc.drew = w132 at HO_8 HO_11 HO_12 HO_22000 BK1 BK2 BK21 HB hHeld ⊢
       refine take_ (i:=0) (N:=some 60) (v:=?_) (a':=?_) #[true,false,false,false,false] rfl rfl (by kernel_rfl) (fun _ _ _ h=>h) (Or.inl ⟨by rfl,?_⟩) hHeld ?_ ?_
       rotate_left
       ·rintro w' ⟨s0,s1⟩
        go_simp
        with_reducible rfl
       rotate_left
       ·simp only [Act.put,s1_,s2_,s3_,i64_w,i32_w]
        rfl
       refine take_ (i:=1) (N:=some 61) (v:=?_) (a':=?_) #[true,true,false,false,false] rfl rfl (by kernel_rfl) (fun _ _ _ h=>h) (Or.inl ⟨by rfl,?_⟩) hHeld ?_ ?_
       rotate_left
       ·rintro w' ⟨s0,s1⟩
        go_simp
        with_reducible rfl
       rotate_left
       ·simp only [Act.put,s1_,s2_,s3_,i64_w,i32_w]
        rfl
       refine one_ (i:=2) (N:=some 62) #[true,true,true,false,false] rfl rfl (by kernel_rfl) (by decide) (fun K hK=>?_)
       refine goes_ Try.func10 (by kernel_rfl) rfl #[.agg #[.slice A0_0 l0_0.length c0_0]] (by rfl) rfl rfl lm_ ?_
       with_reducible refine (laws_toTree.calls kj25 _ _ l0_0 t33 _ ?side1 ?side2 A60.1).mono ?_
       (case side1=>exact cc_ (Kd.C_below HR0_0.1 HB.1))
       (case side2=>exact HC0_0.1)
       rintro e w133 ⟨v34,rfl,ho0,hb⟩
       refine ⟨_,rfl,?_⟩
       have n0_:=a0_ (Kd.R_below (rr_ HO_8.1) hb)
       have n1_:=a0_ (Kd.R_below (rr_ HO_11.1) hb)
       have n2_:=a0_ (Kd.R_below (rr_ HO_12.1) hb)
       have n3_:=a0_ (Kd.R_elder' (rr_ HO_22000.1) (Kd.R_base ho0) hb)
       have n4_:=a0_ (Kd.R_lower (Kd.R_new' ho0 (Kd.R_lt (rr_ HO_22000.1))) (below_size hb_))
       have n5_:=a0_ (blk_below (bb_ BK1.1) hb)
       have n6_:=a0_ (blk_below (bb_ BK2.1) hb)
       have n7_:=a0_ (blk_below (bb_ BK21.1) hb)
       have n8_:=a0_ (below_step hb_ hb)
       clear HO_8
       clear HO_11
       clear HO_12
       clear HO_22000
       clear BK1
       clear BK2
       clear BK21
       clear HB
       have HO_8:=n0_
       have HO_11:=n1_
       have HO_12:=n2_
       have HO_22000:=n3_
       have HO35:=n4_
       have BK1:=n5_
       have BK2:=n6_
       have BK21:=n7_
       have HB:=n8_
       clear n0_ n1_ n2_ n3_ n4_ n5_ n6_ n7_ n8_
       (try clear hb)
       (try clear hb2)
       (try clear hk)
       (try clear hi)
       (try clear ho0)
       obtain ⟨Ao134,co134,eo134⟩:=Kd.R_slice HO35.1
       (first | subst eo134 | (injection eo134 with f1_ f2_ f3_;have f4_:=f1_.symm;have f5_:=f3_.symm;clear f1_ f2_ f3_;subst f4_;subst f5_))
       refine hK.out _ _ ⟨(blk_cell BK21.1 0).trans rfl,(blk_cell BK1.1 0).trans rfl⟩ (fun hHeld=>?_)
       clear hK K
       refine norm_ (a':=?_) ?_ ?_
       rotate_left
       ·show Act.put _ (some 62) _ = _
        simp only [Act.put,s1_,s2_,s3_,i64_w,i32_w]
        rfl
       refine one_ (i:=3) (N:=some 63) #[true,true,true,true,false] rfl rfl (by kernel_rfl) (by decide) (fun K hK=>?_)
       refine goes_ Try.func15 (by kernel_rfl) rfl #[.agg #[.slice Ao42 t18.length co42],.agg #[.slice Ao134 t33.length co134]] (by rfl) rfl rfl lm_ ?_
       with_reducible refine (laws_eqTree.calls kj25 _ _ t18 _ _ t33 false _ ?side1 ?side2 ?side3 ?side4 A61.1).mono ?_
       (case side1=>repeat (first | exact (Kd.R_reads' HO_22000.1).2.2 | (with_reducible refine Kd.C_alloc ?_ _) | (with_reducible refine Kd.C_drewN ?_ _) | (with_reducible refine Kd.C_drew ?_)))
       (case side2=>exact (Kd.R_reads' HO_22000.1).2.1)
       (case side3=>repeat (first | exact (Kd.R_reads' HO35.1).2.2 | (with_reducible refine Kd.C_alloc ?_ _) | (with_reducible refine Kd.C_drewN ?_ _) | (with_reducible refine Kd.C_drew ?_)))
       (case side4=>exact (Kd.R_reads' HO35.1).2.1)
       rintro e w135 ⟨rfl,hb⟩
       refine ⟨_,rfl,?_⟩
       have n0_:=a0_ (Kd.R_below (rr_ HO_8.1) hb)
       have n1_:=a0_ (Kd.R_below (rr_ HO_11.1) hb)
       have n2_:=a0_ (Kd.R_below (rr_ HO_12.1) hb)
       have n3_:=a0_ (Kd.R_below (rr_ HO_22000.1) hb)
       have n4_:=a0_ (Kd.R_below (rr_ HO35.1) hb)
       have n5_:=a0_ (blk_below (bb_ BK1.1) hb)
       have n6_:=a0_ (blk_below (bb_ BK2.1) hb)
       have n7_:=a0_ (blk_below (bb_ BK21.1) hb)
       have n8_:=a0_ (below_step hb_ hb)
       clear HO_8
       clear HO_11
       clear HO_12
       clear HO_22000
       clear HO35
       clear BK1
       clear BK2
       clear BK21
       clear HB
       have HO_8:=n0_
       have HO_11:=n1_
       have HO_12:=n2_
       have HO_22000:=n3_
       have HO35:=n4_
       have BK1:=n5_
       have BK2:=n6_
       have BK21:=n7_
       have HB:=n8_
       clear n0_ n1_ n2_ n3_ n4_ n5_ n6_ n7_ n8_
       (try clear hb)
       (try clear hb2)
       (try clear hk)
       (try clear hi)
       refine hK.out _ _ ⟨(blk_cell BK21.1 0).trans rfl,(blk_cell BK1.1 0).trans rfl⟩ (fun hHeld=>?_)
       clear hK K
       refine norm_ (a':=?_) ?_ ?_
       rotate_left
       ·show Act.put _ (some 63) _ = _
        simp only [Act.put,s1_,s2_,s3_,i64_w,i32_w]
        rfl
       refine pure_ (i:=4) (N:=some 64) (v:=?_) (a':=?_) #[true,true,true,true,true] rfl rfl (by kernel_rfl) (fun _ _ _ h=>h) (Or.inl ⟨by rfl,?_⟩) ?_ ?_
       rotate_left
       ·intro w'
        go_simp
        with_reducible rfl
       rotate_left
       ·simp only [Act.put,s1_,s2_,s3_,i64_w,i32_w]
        rfl
       refine done_ (by kernel_rfl) ?_
       try go_wp2
       go_ret
       exact ⟨by first | rfl | (simp [errW_none,errW_some] <;> rfl) | (simp [*,errW_none,errW_some] <;> rfl),hb_⟩
end Go.Proofs.Ytjcodcimodnbjaa.P
namespace Go.Proofs.Ytjcodcimodnbjaa.Pure
open Go.RowKit Go.Proofs.Ytjcodcimodnbjaa.P
set_option linter.unusedVariables false
theorem FnExactPushExit (l0_0 : List S73) (l1 : List S27) (a2_0 : Int) (a2_1 : Int) (a2_2 : Int) (G0_0 : (l0_0.length ≤ maxLen ∧ ∀ x ∈ l0_0,(x.f0.size ≤ maxLen ∧ (Lit.int .i64 x.f1).wf = true))) (g1 : (l1.length ≤ maxLen ∧ ∀ x ∈ l1,((Lit.int .i64 x.f0).wf = true ∧ (Lit.int .i64 x.f1).wf = true ∧ (Lit.int .i64 x.f2).wf = true))) (G2_0 : (Lit.int .i64 a2_0).wf = true) (G2_1 : (Lit.int .i64 a2_1).wf = true) (G2_2 : (Lit.int .i64 a2_2).wf = true) : ∃ k,laws_FnExactPushExit.f k l0_0 l1 a2_0 a2_1 a2_2 = some true:=by
 have hmax : maxLen = 9223372036854775807:=by decide
 rw [hmax] at G0_0 g1
 refine Ev.out (F:=fun k=>laws_FnExactPushExit.f k l0_0 l1 a2_0 a2_1 a2_2) ?_
 unfold laws_FnExactPushExit.f
 obtain ⟨v0,hv0,hg0⟩:=laws_szTree_ev l0_0 1048576 (by omega) (by omega) G0_0.1 (fun x hx=>(G0_0.2 x hx).1)
 refine Ev.bind hv0 ?_
 by_cases hn0 : v0 < 0
 ·exact Ev.pos hn0 (Ev.const rfl)
 refine Ev.neg hn0 ?_
 obtain ⟨hva0,hl0,hs⟩:=hg0 (by omega)
 obtain ⟨v1,hv1,hg1⟩:=laws_szExitS_ev l1 v0 (by omega) (by omega) g1.1
 refine Ev.bind hv1 ?_
 by_cases hn1 : v1 < 0
 ·exact Ev.pos hn1 (Ev.const rfl)
 refine Ev.neg hn1 ?_
 obtain ⟨hva1,hl1⟩:=hg1 (by omega)
 have hT0:=laws_toTree_ev l0_0 (by omega)
 have hm0 : (l0_0.map toC).length ≤ 1048576:=by rw [List.length_map];omega
 have hT1:=laws_toExitS_ev l1 (by omega)
 have hm1 : (l1.map toExit).length ≤ 1048576:=by rw [List.length_map];omega
 have hsm:=smT_of hs
 have hS : Ev (fun k=>spec_PushExit.f k (l0_0.map toC) (l1.map toExit) a2_0 a2_1 a2_2) (pushP (l0_0.map toC) (l1.map toExit) a2_0 a2_1 a2_2):=spec_PushExit_ev (l0_0.map toC) (l1.map toExit) a2_0 a2_1 a2_2 hsm (by omega) (by omega)
 have hG : Ev (fun k=>impl_PushExit.f (l0_0.map toC) (l1.map toExit) a2_0 a2_1 a2_2) (pushP (l0_0.map toC) (l1.map toExit) a2_0 a2_1 a2_2):=Ev.const (impl_PushExit_ev (l0_0.map toC) (l1.map toExit) a2_0 a2_1 a2_2 hsm (by omega))
 have hrl:=pushP_len (l0_0.map toC) (l1.map toExit) a2_0 a2_1 a2_2
 generalize pushP (l0_0.map toC) (l1.map toExit) a2_0 a2_1 a2_2 = r at hS hG hrl
 obtain ⟨r0,r1⟩:=r
 simp only at hrl
 have hEr0:=laws_eqExitS_ev r0 (by omega)
 obtain ⟨l',hM0⟩:=laws_markTree_ev (l0_0.map toC) (1) (by omega) (by omega)
 have hM1:=laws_markExitS_ev (l1.map toExit) (1 + 2 * (l0_0.map toC).length) (by omega) (by omega)
 have hm9r0:=laws_markExitS_ev r0 (1) (by omega) (by omega)
 have hhr0:=laws_heldExitS_ev (1) r0.length (by omega) (by omega)
 refine Ev.bind hT0 (Ev.bind hT1 (Ev.bind (Ev.const rfl) (Ev.bind hS (Ev.bind hT0 (Ev.bind hT1 (Ev.bind (Ev.const rfl) (Ev.bind hG (Ev.bind hEr0 (Ev.pos rfl ?_)))))))))
 refine Ev.succ ?_
 simp only [laws_FnExactPushExit.j0]
 refine Ev.neg (by simp) (Ev.bind hT0 (Ev.bind (laws_eqTree_ev _ (by omega)) (Ev.pos rfl (Ev.bind hT1 (Ev.bind (laws_eqExitS_ev _ (by omega)) (Ev.pos rfl (Ev.bind hM0 (Ev.bind hM1 (Ev.neg (by show ¬ (_ < (0 : Int));omega) (Ev.bind hEr0 (Ev.pos rfl ?_)))))))))))
 refine Ev.succ ?_
 simp only [laws_FnExactPushExit.j1]
 refine Ev.neg (by simp) (Ev.bind hm9r0 (Ev.bind hhr0 (Ev.neg (by omega) (Ev.pos rfl (Ev.bind hT0 (Ev.bind hT1 (Ev.bind (Ev.const rfl) (Ev.bind hG (Ev.bind hEr0 (Ev.pos rfl ?_))))))))))
 refine Ev.succ ?_
 simp only [laws_FnExactPushExit.j2]
 exact Ev.neg (by simp) (Ev.bind hhr0 (Ev.neg (by omega) (Ev.pos rfl (Ev.const rfl))))
end Go.Proofs.Ytjcodcimodnbjaa.Pure
