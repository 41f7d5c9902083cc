/- Texts under the proof of FnExactJoinExits: helper words, the functions' contracts and the plain laws. No condition. -/
import Derived.Test.YtjcodcimodnbjaaQFnExactJoinExitsa
import Derived.Test.YtjcodcimodnbjaaQFnExactJoinExitsb
namespace Go.Proofs.Ytjcodcimodnbjaa.P
open Go.RowKit Go.Proofs.YtjcodcimodnbjaaW.PrintWords Go.Proofs.YtjcodcimodnbjaaW.PrintLast Go.Proofs.YtjcodcimodnbjaaW.PrintMore
attribute [local go_sem] max2_int min2_int max_two min_two max_three min_three max_four min_four
set_option linter.unusedVariables false
set_option linter.unusedSimpArgs false
mutual
def laws_FnExactJoinExits.j0 : Nat → List (S27) → List (S27) → List (S38) → Bool → List (S38) → List (S38) → List (S38) → Bool → Bool → List (S73) → List (S76) → Option (Bool)
 | 0,_,_,_,_,_,_,_,_,_,_,_=>none
 | k + 1,x1,x2,x8,x9,x11,x12,x13,x14,x66,x2000,x22000=>if x66 = true then (some false) else ((laws_toTree.f k x2000).bind fun t33=>((laws_eqTree.f k x22000 t33).bind fun t36=>(if t36 = true then ((laws_toExitS.f k x1).bind fun t37=>((laws_eqExitS.f k x11 t37).bind fun t40=>(if t40 = true then ((laws_toExitS.f k x2).bind fun t41=>((laws_eqExitS.f k x12 t41).bind fun t44=>(if t44 = true then ((laws_markTree.f k x22000 1).bind fun bt45=>((laws_markExitS.f k x11 bt45.1).bind fun bt47=>((laws_markExitS.f k x12 bt47.1).bind fun bt49=>(if bt49.1 < 0 then (laws_FnExactJoinExits.j1 k x1 x2 x8 x9 x13 true x2000) else ((laws_eqExitS.f k x13 x8).bind fun t51=>(if t51 = true then (laws_FnExactJoinExits.j1 k x1 x2 x8 x9 x13 (x14 != x9) x2000) else (laws_FnExactJoinExits.j1 k x1 x2 x8 x9 x13 true x2000))))))) else (some false)))) else (some false)))) else (some false))))
def laws_FnExactJoinExits.j1 : Nat → List (S27) → List (S27) → List (S38) → Bool → List (S38) → Bool → List (S73) → Option (Bool)
 | 0,_,_,_,_,_,_,_=>none
 | k + 1,x1,x2,x8,x9,x13,x103,x2000=>if x103 = true then (some false) else ((laws_markExitS.f k x13 1).bind fun bt52=>((laws_heldExitS.f k bt52.2 1).bind fun t54=>(if t54 < 0 then (some false) else (if t54 = bt52.1 then ((laws_toTree.f k x2000).bind fun t55=>((laws_toExitS.f k x1).bind fun t58=>((laws_toExitS.f k x2).bind fun t61=>((impl_JoinExits.f t55 t58 t61).bind fun bt64=>((laws_eqExitS.f k bt64.1 x8).bind fun t68=>(if t68 = true then (laws_FnExactJoinExits.j2 k bt52.2 bt52.1 (bt64.2 != x9)) else (laws_FnExactJoinExits.j2 k bt52.2 bt52.1 true))))))) else (some false)))))
def laws_FnExactJoinExits.j2 : Nat → List (S38) → Int → Bool → Option (Bool)
 | 0,_,_,_=>none
 | k + 1,x13,x16,x133=>if x133 = true then (some false) else ((laws_heldExitS.f k x13 1).bind fun t69=>(if t69 < 0 then (some false) else (if t69 = x16 then (some true) else (some false))))
end
def laws_FnExactJoinExits.f (k : Nat) (l0_0 : List (S73)) (l1 : List (S27)) (l2 : List (S27)) : Option (Bool):=(laws_szTree.f k l0_0 1048576).bind fun t2=>(if t2 < 0 then (some true) else ((laws_szExitS.f l1 t2).bind fun t3=>(if t3 < 0 then (some true) else ((laws_szExitS.f l2 t3).bind fun t4=>(if t4 < 0 then (some true) else ((laws_toTree.f k l0_0).bind fun t5=>((laws_toExitS.f k l1).bind fun t8=>((laws_toExitS.f k l2).bind fun t11=>((spec_JoinExits.f k t5 t8 t11).bind fun bt14=>((laws_toTree.f k l0_0).bind fun t18=>((laws_toExitS.f k l1).bind fun t22=>((laws_toExitS.f k l2).bind fun t25=>((impl_JoinExits.f t18 t22 t25).bind fun bt28=>((laws_eqExitS.f k bt28.1 bt14.1).bind fun t32=>(if t32 = true then (laws_FnExactJoinExits.j0 k l1 l2 bt14.1 bt14.2 t22 t25 bt28.1 bt28.2 (bt28.2 != bt14.2) l0_0 t18) else (laws_FnExactJoinExits.j0 k l1 l2 bt14.1 bt14.2 t22 t25 bt28.1 bt28.2 true l0_0 t18))))))))))))))))
theorem laws_FnExactJoinExits.mono_l : ∀ k,(∀ y0 y1 y2 y3 y4 y5 y6 y7 y8 y9 y10,LeO (laws_FnExactJoinExits.j0 k y0 y1 y2 y3 y4 y5 y6 y7 y8 y9 y10) (laws_FnExactJoinExits.j0 (k + 1) y0 y1 y2 y3 y4 y5 y6 y7 y8 y9 y10)) ∧ (∀ y0 y1 y2 y3 y4 y5 y6,LeO (laws_FnExactJoinExits.j1 k y0 y1 y2 y3 y4 y5 y6) (laws_FnExactJoinExits.j1 (k + 1) y0 y1 y2 y3 y4 y5 y6)) ∧ (∀ y0 y1 y2,LeO (laws_FnExactJoinExits.j2 k y0 y1 y2) (laws_FnExactJoinExits.j2 (k + 1) y0 y1 y2))
 | 0=>⟨fun _ _ _ _ _ _ _ _ _ _ _ r h=>by simp [laws_FnExactJoinExits.j0] at h,fun _ _ _ _ _ _ _ r h=>by simp [laws_FnExactJoinExits.j1] at h,fun _ _ _ r h=>by simp [laws_FnExactJoinExits.j2] at h⟩
 | k + 1=>by
  obtain ⟨ih0,ih1,ih2⟩:=laws_FnExactJoinExits.mono_l k
  refine ⟨?_,?_,?_⟩
  ·intro y0 y1 y2 y3 y4 y5 y6 y7 y8 y9 y10
   unfold laws_FnExactJoinExits.j0
   repeat' first
   | (with_reducible exact ih0 _ _ _ _ _ _ _ _ _ _ _)
   | (with_reducible exact ih1 _ _ _ _ _ _ _)
   | (with_reducible exact ih2 _ _ _)
   | (with_reducible exact laws_eqExitS.mono _ _ _)
   | (with_reducible exact laws_eqTree.mono _ _ _)
   | (with_reducible exact laws_heldExitS.mono _ _ _)
   | (with_reducible exact laws_markExitS.mono _ _ _)
   | (with_reducible exact laws_markTree.mono _ _ _)
   | (with_reducible exact laws_szTree.mono _ _ _)
   | (with_reducible exact laws_toExitS.mono _ _)
   | (with_reducible exact laws_toTree.mono _ _)
   | (with_reducible exact spec_JoinExits.mono _ _ _ _)
   | (with_reducible exact LeO.refl _)
   | (with_reducible exact LeO.none _)
   | (with_reducible refine LeO.ite ?_ ?_)
   | (with_reducible refine LeO.bind ?_ (fun _=>?_))
   | exact ih0 _ _ _ _ _ _ _ _ _ _ _
   | exact ih1 _ _ _ _ _ _ _
   | exact ih2 _ _ _
   | exact laws_eqExitS.mono _ _ _
   | exact laws_eqTree.mono _ _ _
   | exact laws_heldExitS.mono _ _ _
   | exact laws_markExitS.mono _ _ _
   | exact laws_markTree.mono _ _ _
   | exact laws_szTree.mono _ _ _
   | exact laws_toExitS.mono _ _
   | exact laws_toTree.mono _ _
   | exact spec_JoinExits.mono _ _ _ _
   | exact LeO.none _
   | refine LeO.ite ?_ ?_
   | refine LeO.bind ?_ (fun _=>?_)
  ·intro y0 y1 y2 y3 y4 y5 y6
   unfold laws_FnExactJoinExits.j1
   repeat' first
   | (with_reducible exact ih0 _ _ _ _ _ _ _ _ _ _ _)
   | (with_reducible exact ih1 _ _ _ _ _ _ _)
   | (with_reducible exact ih2 _ _ _)
   | (with_reducible exact laws_eqExitS.mono _ _ _)
   | (with_reducible exact laws_eqTree.mono _ _ _)
   | (with_reducible exact laws_heldExitS.mono _ _ _)
   | (with_reducible exact laws_markExitS.mono _ _ _)
   | (with_reducible exact laws_markTree.mono _ _ _)
   | (with_reducible exact laws_szTree.mono _ _ _)
   | (with_reducible exact laws_toExitS.mono _ _)
   | (with_reducible exact laws_toTree.mono _ _)
   | (with_reducible exact spec_JoinExits.mono _ _ _ _)
   | (with_reducible exact LeO.refl _)
   | (with_reducible exact LeO.none _)
   | (with_reducible refine LeO.ite ?_ ?_)
   | (with_reducible refine LeO.bind ?_ (fun _=>?_))
   | exact ih0 _ _ _ _ _ _ _ _ _ _ _
   | exact ih1 _ _ _ _ _ _ _
   | exact ih2 _ _ _
   | exact laws_eqExitS.mono _ _ _
   | exact laws_eqTree.mono _ _ _
   | exact laws_heldExitS.mono _ _ _
   | exact laws_markExitS.mono _ _ _
   | exact laws_markTree.mono _ _ _
   | exact laws_szTree.mono _ _ _
   | exact laws_toExitS.mono _ _
   | exact laws_toTree.mono _ _
   | exact spec_JoinExits.mono _ _ _ _
   | exact LeO.none _
   | refine LeO.ite ?_ ?_
   | refine LeO.bind ?_ (fun _=>?_)
  ·intro y0 y1 y2
   unfold laws_FnExactJoinExits.j2
   repeat' first
   | (with_reducible exact ih0 _ _ _ _ _ _ _ _ _ _ _)
   | (with_reducible exact ih1 _ _ _ _ _ _ _)
   | (with_reducible exact ih2 _ _ _)
   | (with_reducible exact laws_eqExitS.mono _ _ _)
   | (with_reducible exact laws_eqTree.mono _ _ _)
   | (with_reducible exact laws_heldExitS.mono _ _ _)
   | (with_reducible exact laws_markExitS.mono _ _ _)
   | (with_reducible exact laws_markTree.mono _ _ _)
   | (with_reducible exact laws_szTree.mono _ _ _)
   | (with_reducible exact laws_toExitS.mono _ _)
   | (with_reducible exact laws_toTree.mono _ _)
   | (with_reducible exact spec_JoinExits.mono _ _ _ _)
   | (with_reducible exact LeO.refl _)
   | (with_reducible exact LeO.none _)
   | (with_reducible refine LeO.ite ?_ ?_)
   | (with_reducible refine LeO.bind ?_ (fun _=>?_))
   | exact ih0 _ _ _ _ _ _ _ _ _ _ _
   | exact ih1 _ _ _ _ _ _ _
   | exact ih2 _ _ _
   | exact laws_eqExitS.mono _ _ _
   | exact laws_eqTree.mono _ _ _
   | exact laws_heldExitS.mono _ _ _
   | exact laws_markExitS.mono _ _ _
   | exact laws_markTree.mono _ _ _
   | exact laws_szTree.mono _ _ _
   | exact laws_toExitS.mono _ _
   | exact laws_toTree.mono _ _
   | exact spec_JoinExits.mono _ _ _ _
   | exact LeO.none _
   | refine LeO.ite ?_ ?_
   | refine LeO.bind ?_ (fun _=>?_)
theorem laws_FnExactJoinExits.mono : ∀ a0 a1 a2 k,LeO (laws_FnExactJoinExits.f k a0 a1 a2) (laws_FnExactJoinExits.f (k + 1) a0 a1 a2):=by
 intro a0 a1 a2 k
 obtain ⟨ih0,ih1,ih2⟩:=laws_FnExactJoinExits.mono_l k
 unfold laws_FnExactJoinExits.f
 repeat' first
   | (with_reducible exact ih0 _ _ _ _ _ _ _ _ _ _ _)
   | (with_reducible exact ih1 _ _ _ _ _ _ _)
   | (with_reducible exact ih2 _ _ _)
   | (with_reducible exact laws_eqExitS.mono _ _ _)
   | (with_reducible exact laws_eqTree.mono _ _ _)
   | (with_reducible exact laws_heldExitS.mono _ _ _)
   | (with_reducible exact laws_markExitS.mono _ _ _)
   | (with_reducible exact laws_markTree.mono _ _ _)
   | (with_reducible exact laws_szTree.mono _ _ _)
   | (with_reducible exact laws_toExitS.mono _ _)
   | (with_reducible exact laws_toTree.mono _ _)
   | (with_reducible exact spec_JoinExits.mono _ _ _ _)
   | (with_reducible exact LeO.refl _)
   | (with_reducible exact LeO.none _)
   | (with_reducible refine LeO.ite ?_ ?_)
   | (with_reducible refine LeO.bind ?_ (fun _=>?_))
   | exact ih0 _ _ _ _ _ _ _ _ _ _ _
   | exact ih1 _ _ _ _ _ _ _
   | exact ih2 _ _ _
   | exact laws_eqExitS.mono _ _ _
   | exact laws_eqTree.mono _ _ _
   | exact laws_heldExitS.mono _ _ _
   | exact laws_markExitS.mono _ _ _
   | exact laws_markTree.mono _ _ _
   | exact laws_szTree.mono _ _ _
   | exact laws_toExitS.mono _ _
   | exact laws_toTree.mono _ _
   | exact spec_JoinExits.mono _ _ _ _
   | exact LeO.none _
   | refine LeO.ite ?_ ?_
   | refine LeO.bind ?_ (fun _=>?_)
set_option maxHeartbeats 8000000 in
set_option maxRecDepth 100000 in
theorem laws_FnExactJoinExits.calls (k : Nat) (A0_0 : Option Addr) (c0_0 : Nat) (l0_0 : List (S73)) (A1 : Option Addr) (c1 : Nat) (l1 : List (S27)) (A2 : Option Addr) (c2 : Nat) (l2 : List (S27)) (r : Bool) (w : World) (hr0_0 : Kd.C k73 w A0_0 l0_0.length l0_0) (hc0_0 : l0_0.length ≤ c0_0) (hr1 : Kd.C k27 w A1 l1.length l1) (hc1 : l1.length ≤ c1) (hr2 : Kd.C k27 w A2 l2.length l2) (hc2 : l2.length ≤ c2) (h : laws_FnExactJoinExits.f k l0_0 l1 l2 = some r) :
  Calls Try.prog 5 #[.agg #[.slice A0_0 l0_0.length c0_0],.slice A1 l1.length c1,.slice A2 l2.length c2] w fun e w'=>e = .returned (.bool r) ∧ Below w.heap.size w w':=by
 have hu24:=Try.underlying24
 have hu35:=Try.underlying35
 have HR0_0:=a0_ hr0_0
 have HC0_0:=a0_ hc0_0
 clear hr0_0 hc0_0
 have HR1:=a0_ hr1
 have HC1:=a0_ hc1
 clear hr1 hc1
 have HR2:=a0_ hr2
 have HC2:=a0_ hc2
 clear hr2 hc2
 have HB:=a0_ (Below.refl w.heap.size w)
 have H : ((laws_szTree.f k l0_0 1048576).bind fun t2=>(if t2 < 0 then (some true) else ((laws_szExitS.f l1 t2).bind fun t3=>(if t3 < 0 then (some true) else ((laws_szExitS.f l2 t3).bind fun t4=>(if t4 < 0 then (some true) else ((laws_toTree.f k l0_0).bind fun t5=>((laws_toExitS.f k l1).bind fun t8=>((laws_toExitS.f k l2).bind fun t11=>((spec_JoinExits.f k t5 t8 t11).bind fun bt14=>((laws_toTree.f k l0_0).bind fun t18=>((laws_toExitS.f k l1).bind fun t22=>((laws_toExitS.f k l2).bind fun t25=>((impl_JoinExits.f t18 t22 t25).bind fun bt28=>((laws_eqExitS.f k bt28.1 bt14.1).bind fun t32=>(if t32 = true then (laws_FnExactJoinExits.j0 k l1 l2 bt14.1 bt14.2 t22 t25 bt28.1 bt28.2 (bt28.2 != bt14.2) l0_0 t18) else (laws_FnExactJoinExits.j0 k l1 l2 bt14.1 bt14.2 t22 t25 bt28.1 bt28.2 true l0_0 t18))))))))))))))))) = some r:=h
 clear h
 replace H:=Option.bind_eq_some_iff.mp H
 obtain ⟨t2,A40,H⟩:=H
 try dsimp only at H
 have A4:=a0_ A40
 clear A40
 by_cases c5 : t2 < 0
 ·rw [if_pos c5] at H
  have c5b0 : decide (t2 < 0) = true:=decide_eq_true c5
  clear c5
  obtain rfl:=Option.some.inj H
  go_enter Try.func5,Try.ntmps5
  go_wp2_with (first | ((with_reducible refine gate_dst (N:=3) rfl ?_);refine box_event ?hg (N:=3) ?hd (cs:=#[.slice A0_0 l0_0.length c0_0]) (t:=24) ?hr ?_;(case hd=>rfl);(case hg=>rfl);(case hr=>first | (go_simp;done) | (go_simp;rfl));intro gb1 hg w6 hbox hb;have BK1:=a0_ (hbox);have GW1:=a0_ ((by rw [hg];exact (below_size hbw_) : w.heap.size ≤ gb1));have GE1:=a0_ ((by rw [hg];exact (below_size hbw_) : w.heap.size ≤ gb1));replace HB:=a0_ (below_step hbw_ hb);clear hb hbox hg;have hcz7_0 : w6.cell? ⟨gb1,0,none⟩ = some (.slice A0_0 l0_0.length c0_0):=(blk_cell BK1.out 0).trans rfl;have hfz7_0:=blk_frozen BK1.out 0) | ((with_reducible refine gate_callee (f:=7) rfl ?_);refine goesL_ (some 22) rfl rfl Try.func7 (by kernel_rfl) rfl #[.agg #[.slice A0_0 l0_0.length c0_0],.int .i64 1048576] rfl lm_ ?_;(with_reducible refine (laws_szTree.calls k _ _ l0_0 1048576 t2 _ ?side1 ?side2 A4.out).mono ?_);(case side1=>exact cc_ (Kd.C_below HR0_0.out HB.out));(case side2=>exact HC0_0.out);rintro e w8 ⟨rfl,hb⟩;refine ⟨_,rfl,?_⟩;replace BK1:=kb_ BK1 hb;replace HB:=a0_ (below_step hbw_ hb);(try clear hb);(try clear hb2);(try clear hk);(try clear hi)))
  go_ret
  exact ⟨by first | rfl | (simp [errW_none,errW_some] <;> rfl) | (simp [*,errW_none,errW_some] <;> rfl),hbw_⟩
 ·rw [if_neg c5] at H
  have c5b0 : decide (t2 < 0) = false:=decide_eq_false c5
  clear c5
  replace H:=Option.bind_eq_some_iff.mp H
  obtain ⟨t3,A90,H⟩:=H
  try dsimp only at H
  have A9:=a0_ A90
  clear A90
  by_cases c10 : t3 < 0
  ·rw [if_pos c10] at H
   have c10b0 : decide (t3 < 0) = true:=decide_eq_true c10
   clear c10
   obtain rfl:=Option.some.inj H
   go_enter Try.func5,Try.ntmps5
   go_wp2_with (first | ((with_reducible refine gate_dst (N:=3) rfl ?_);refine box_event ?hg (N:=3) ?hd (cs:=#[.slice A0_0 l0_0.length c0_0]) (t:=24) ?hr ?_;(case hd=>rfl);(case hg=>rfl);(case hr=>first | (go_simp;done) | (go_simp;rfl));intro gb1 hg w11 hbox hb;have BK1:=a0_ (hbox);have GW1:=a0_ ((by rw [hg];exact (below_size hbw_) : w.heap.size ≤ gb1));have GE1:=a0_ ((by rw [hg];exact (below_size hbw_) : w.heap.size ≤ gb1));replace HB:=a0_ (below_step hbw_ hb);clear hb hbox hg;have hcz12_0 : w11.cell? ⟨gb1,0,none⟩ = some (.slice A0_0 l0_0.length c0_0):=(blk_cell BK1.out 0).trans rfl;have hfz12_0:=blk_frozen BK1.out 0) | ((with_reducible refine gate_callee (f:=7) rfl ?_);refine goesL_ (some 22) rfl rfl Try.func7 (by kernel_rfl) rfl #[.agg #[.slice A0_0 l0_0.length c0_0],.int .i64 1048576] rfl lm_ ?_;(with_reducible refine (laws_szTree.calls k _ _ l0_0 1048576 t2 _ ?side1 ?side2 A4.out).mono ?_);(case side1=>exact cc_ (Kd.C_below HR0_0.out HB.out));(case side2=>exact HC0_0.out);rintro e w13 ⟨rfl,hb⟩;refine ⟨_,rfl,?_⟩;replace BK1:=kb_ BK1 hb;replace HB:=a0_ (below_step hbw_ hb);(try clear hb);(try clear hb2);(try clear hk);(try clear hi)) | ((with_reducible refine gate_callee (f:=8) rfl ?_);refine goesL_ (some 27) rfl rfl Try.func8 (by kernel_rfl) rfl #[.slice A1 l1.length c1,.int .i64 t2] rfl lm_ ?_;(with_reducible refine (laws_szExitS.calls _ _ l1 t2 t3 _ ?side1 ?side2 A9.out).mono ?_);(case side1=>exact cc_ (Kd.C_below HR1.out HB.out));(case side2=>exact HC1.out);rintro e w' ⟨rfl,⟨nd,rfl⟩⟩;refine ⟨_,rfl,?_⟩))
   go_ret
   exact ⟨by first | rfl | (simp [errW_none,errW_some] <;> rfl) | (simp [*,errW_none,errW_some] <;> rfl),hbw_⟩
  ·rw [if_neg c10] at H
   have c10b0 : decide (t3 < 0) = false:=decide_eq_false c10
   clear c10
   replace H:=Option.bind_eq_some_iff.mp H
   obtain ⟨t4,A140,H⟩:=H
   try dsimp only at H
   have A14:=a0_ A140
   clear A140
   by_cases c15 : t4 < 0
   ·rw [if_pos c15] at H
    have c15b0 : decide (t4 < 0) = true:=decide_eq_true c15
    clear c15
    obtain rfl:=Option.some.inj H
    go_enter Try.func5,Try.ntmps5
    go_wp2_with (first | ((with_reducible refine gate_dst (N:=3) rfl ?_);refine box_event ?hg (N:=3) ?hd (cs:=#[.slice A0_0 l0_0.length c0_0]) (t:=24) ?hr ?_;(case hd=>rfl);(case hg=>rfl);(case hr=>first | (go_simp;done) | (go_simp;rfl));intro gb1 hg w16 hbox hb;have BK1:=a0_ (hbox);have GW1:=a0_ ((by rw [hg];exact (below_size hbw_) : w.heap.size ≤ gb1));have GE1:=a0_ ((by rw [hg];exact (below_size hbw_) : w.heap.size ≤ gb1));replace HB:=a0_ (below_step hbw_ hb);clear hb hbox hg;have hcz17_0 : w16.cell? ⟨gb1,0,none⟩ = some (.slice A0_0 l0_0.length c0_0):=(blk_cell BK1.out 0).trans rfl;have hfz17_0:=blk_frozen BK1.out 0) | ((with_reducible refine gate_callee (f:=7) rfl ?_);refine goesL_ (some 22) rfl rfl Try.func7 (by kernel_rfl) rfl #[.agg #[.slice A0_0 l0_0.length c0_0],.int .i64 1048576] rfl lm_ ?_;(with_reducible refine (laws_szTree.calls k _ _ l0_0 1048576 t2 _ ?side1 ?side2 A4.out).mono ?_);(case side1=>exact cc_ (Kd.C_below HR0_0.out HB.out));(case side2=>exact HC0_0.out);rintro e w18 ⟨rfl,hb⟩;refine ⟨_,rfl,?_⟩;replace BK1:=kb_ BK1 hb;replace HB:=a0_ (below_step hbw_ hb);(try clear hb);(try clear hb2);(try clear hk);(try clear hi)) | ((with_reducible refine gate_callee (f:=8) rfl ?_);refine goesL_ (some 27) rfl rfl Try.func8 (by kernel_rfl) rfl #[.slice A1 l1.length c1,.int .i64 t2] rfl lm_ ?_;(with_reducible refine (laws_szExitS.calls _ _ l1 t2 t3 _ ?side1 ?side2 A9.out).mono ?_);(case side1=>exact cc_ (Kd.C_below HR1.out HB.out));(case side2=>exact HC1.out);rintro e w' ⟨rfl,⟨nd,rfl⟩⟩;refine ⟨_,rfl,?_⟩) | ((with_reducible refine gate_callee (f:=8) rfl ?_);refine goesL_ (some 32) rfl rfl Try.func8 (by kernel_rfl) rfl #[.slice A2 l2.length c2,.int .i64 t3] rfl lm_ ?_;(with_reducible refine (laws_szExitS.calls _ _ l2 t3 t4 _ ?side1 ?side2 A14.out).mono ?_);(case side1=>repeat (first | exact (Kd.C_below HR2.out hbw_) | (with_reducible refine Kd.C_alloc ?_ _) | (with_reducible refine Kd.C_drewN ?_ _) | (with_reducible refine Kd.C_drew ?_)));(case side2=>exact HC2.out);rintro e w' ⟨rfl,⟨nd,rfl⟩⟩;refine ⟨_,rfl,?_⟩))
    go_ret
    exact ⟨by first | rfl | (simp [errW_none,errW_some] <;> rfl) | (simp [*,errW_none,errW_some] <;> rfl),hbw_⟩
   ·rw [if_neg c15] at H
    have c15b0 : decide (t4 < 0) = false:=decide_eq_false c15
    clear c15
    replace H:=Option.bind_eq_some_iff.mp H
    obtain ⟨t5,A190,H⟩:=H
    try dsimp only at H
    have A19:=a0_ A190
    clear A190
    replace H:=Option.bind_eq_some_iff.mp H
    obtain ⟨t8,A200,H⟩:=H
    try dsimp only at H
    have A20:=a0_ A200
    clear A200
    replace H:=Option.bind_eq_some_iff.mp H
    obtain ⟨t11,A210,H⟩:=H
    try dsimp only at H
    have A21:=a0_ A210
    clear A210
    replace H:=Option.bind_eq_some_iff.mp H
    obtain ⟨⟨t14,t17⟩,A220,H⟩:=H
    try dsimp only at H
    have A22:=a0_ A220
    clear A220
    replace H:=Option.bind_eq_some_iff.mp H
    obtain ⟨t18,A230,H⟩:=H
    try dsimp only at H
    have A23:=a0_ A230
    clear A230
    replace H:=Option.bind_eq_some_iff.mp H
    obtain ⟨t22,A240,H⟩:=H
    try dsimp only at H
    have A24:=a0_ A240
    clear A240
    replace H:=Option.bind_eq_some_iff.mp H
    obtain ⟨t25,A250,H⟩:=H
    try dsimp only at H
    have A25:=a0_ A250
    clear A250
    replace H:=Option.bind_eq_some_iff.mp H
    obtain ⟨⟨t28,t31⟩,A260,H⟩:=H
    try dsimp only at H
    have A26:=a0_ A260
    clear A260
    have HC27:=a0_ H
    clear H
    go_enter Try.func5,Try.ntmps5
    go_upto_region 16 with (first | ((with_reducible refine gate_dst (N:=3) rfl ?_);refine box_event ?hg (N:=3) ?hd (cs:=#[.slice A0_0 l0_0.length c0_0]) (t:=24) ?hr ?_;(case hd=>rfl);(case hg=>rfl);(case hr=>first | (go_simp;done) | (go_simp;rfl));intro gb1 hg w28 hbox hb;have BK1:=a0_ (hbox);have GW1:=a0_ ((by rw [hg];exact (below_size hbw_) : w.heap.size ≤ gb1));have GE1:=a0_ ((by rw [hg];exact (below_size hbw_) : w.heap.size ≤ gb1));replace HB:=a0_ (below_step hbw_ hb);clear hb hbox hg;have hcz29_0 : w28.cell? ⟨gb1,0,none⟩ = some (.slice A0_0 l0_0.length c0_0):=(blk_cell BK1.out 0).trans rfl;have hfz29_0:=blk_frozen BK1.out 0) | ((with_reducible refine gate_callee (f:=7) rfl ?_);refine goesL_ (some 22) rfl rfl Try.func7 (by kernel_rfl) rfl #[.agg #[.slice A0_0 l0_0.length c0_0],.int .i64 1048576] rfl lm_ ?_;(with_reducible refine (laws_szTree.calls k _ _ l0_0 1048576 t2 _ ?side1 ?side2 A4.out).mono ?_);(case side1=>exact cc_ (Kd.C_below HR0_0.out HB.out));(case side2=>exact HC0_0.out);rintro e w30 ⟨rfl,hb⟩;refine ⟨_,rfl,?_⟩;replace BK1:=kb_ BK1 hb;replace HB:=a0_ (below_step hbw_ hb);(try clear hb);(try clear hb2);(try clear hk);(try clear hi)) | ((with_reducible refine gate_callee (f:=8) rfl ?_);refine goesL_ (some 27) rfl rfl Try.func8 (by kernel_rfl) rfl #[.slice A1 l1.length c1,.int .i64 t2] rfl lm_ ?_;(with_reducible refine (laws_szExitS.calls _ _ l1 t2 t3 _ ?side1 ?side2 A9.out).mono ?_);(case side1=>exact cc_ (Kd.C_below HR1.out HB.out));(case side2=>exact HC1.out);rintro e w' ⟨rfl,⟨nd,rfl⟩⟩;refine ⟨_,rfl,?_⟩;(try (rw [drewN_self w30];generalize hq_ : World.drewN w30 _ = w30;have n0_ : Aside0 (w30.heap[gb1]? = some (.cells #[.slice A0_0 l0_0.length c0_0] 24 (0,0))):=⟨by rw [← hq_];exact (bb_ BK1.out)⟩;have n1_ : Aside0 (Below w.heap.size w w30):=⟨by rw [← hq_];exact hbw_⟩;clear BK1 HB hq_;have BK1:=n0_;have HB:=n1_;clear n0_ n1_))) | ((with_reducible refine gate_callee (f:=8) rfl ?_);refine goesL_ (some 32) rfl rfl Try.func8 (by kernel_rfl) rfl #[.slice A2 l2.length c2,.int .i64 t3] rfl lm_ ?_;(with_reducible refine (laws_szExitS.calls _ _ l2 t3 t4 _ ?side1 ?side2 A14.out).mono ?_);(case side1=>exact cc_ (Kd.C_below HR2.out HB.out));(case side2=>exact HC2.out);rintro e w' ⟨rfl,⟨nd,rfl⟩⟩;refine ⟨_,rfl,?_⟩;(try (rw [drewN_self w30];generalize hq_ : World.drewN w30 _ = w30;have n0_ : Aside0 (w30.heap[gb1]? = some (.cells #[.slice A0_0 l0_0.length c0_0] 24 (0,0))):=⟨by rw [← hq_];exact (bb_ BK1.out)⟩;have n1_ : Aside0 (Below w.heap.size w w30):=⟨by rw [← hq_];exact hbw_⟩;clear BK1 HB hq_;have BK1:=n0_;have HB:=n1_;clear n0_ n1_));have hcz31_0 : w30.cell? ⟨gb1,0,none⟩ = some (.slice A0_0 l0_0.length c0_0):=(blk_cell BK1.out 0).trans rfl;have hfz31_0:=blk_frozen BK1.out 0) | ((with_reducible refine gate_callee (f:=10) rfl ?_);refine goesL_ (some 37) rfl rfl Try.func10 (by kernel_rfl) rfl #[.agg #[.slice A0_0 l0_0.length c0_0]] rfl lm_ ?_;(with_reducible refine (laws_toTree.calls k _ _ l0_0 t5 _ ?side1 ?side2 A19.out).mono ?_);(case side1=>exact cc_ (Kd.C_below HR0_0.out HB.out));(case side2=>exact HC0_0.out);rintro e w32 ⟨v6,rfl,ho0,hb⟩;refine ⟨_,rfl,?_⟩;have HO7:=a0_ (Kd.R_lower ho0 (below_size hbw_));replace BK1:=kb_ BK1 hb;replace HB:=a0_ (below_step hbw_ hb);(try clear hb);(try clear ho0)) | ((with_reducible refine gate_callee (f:=11) rfl ?_);refine goesL_ (some 39) rfl rfl Try.func11 (by kernel_rfl) rfl #[.slice A1 l1.length c1] rfl lm_ ?_;(with_reducible refine (laws_toExitS.calls k _ _ l1 t8 _ ?side1 ?side2 A20.out).mono ?_);(case side1=>exact cc_ (Kd.C_below HR1.out HB.out));(case side2=>exact HC1.out);rintro e w33 ⟨v9,rfl,ho0,hb⟩;refine ⟨_,rfl,?_⟩;replace HO7:=rb_ HO7 hb;have HO10:=a0_ (Kd.R_lower ho0 (below_size hbw_));replace BK1:=kb_ BK1 hb;replace HB:=a0_ (below_step hbw_ hb);(try clear hb);(try clear ho0)) | ((with_reducible refine gate_callee (f:=11) rfl ?_);refine goesL_ (some 41) rfl rfl Try.func11 (by kernel_rfl) rfl #[.slice A2 l2.length c2] rfl lm_ ?_;(with_reducible refine (laws_toExitS.calls k _ _ l2 t11 _ ?side1 ?side2 A21.out).mono ?_);(case side1=>exact cc_ (Kd.C_below HR2.out HB.out));(case side2=>exact HC2.out);rintro e w34 ⟨v12,rfl,ho0,hb⟩;refine ⟨_,rfl,?_⟩;have n0_:=rb_ HO7 hb;have n1_:=a0_ (Kd.R_elder' (rr_ HO10.out) (Kd.R_base ho0) hb);have n2_:=a0_ (Kd.R_lower (Kd.R_new' ho0 (Kd.R_lt (rr_ HO10.out))) (below_size hbw_));have n3_:=kb_ BK1 hb;have n4_:=a0_ (below_step hbw_ hb);clear HO7 HO10;clear BK1 HB;have HO7:=n0_;have HO10:=n1_;have HO13:=n2_;have BK1:=n3_;have HB:=n4_;clear n0_ n1_ n2_ n3_ n4_;(try clear hb);(try clear ho0);obtain ⟨Ao35,co35,eo35⟩:=Kd.R_slice HO7.out;subst eo35;obtain ⟨Ao36,co36,eo36⟩:=Kd.R_slice HO10.out;subst eo36;obtain ⟨Ao37,co37,eo37⟩:=Kd.R_slice HO13.out;subst eo37) | ((with_reducible refine gate_callee (f:=22) rfl ?_);refine goesL_ (some 42) rfl rfl Try.func22 (by kernel_rfl) rfl #[.agg #[.slice Ao35 t5.length co35],.slice Ao36 t8.length co36,.slice Ao37 t11.length co37] rfl lm_ ?_;(with_reducible refine (spec_JoinExits.calls k _ _ t5 _ _ t8 _ _ t11 t14 t17 _ ?side1 ?side2 ?side3 ?side4 ?side5 ?side6 A22.out).mono ?_);(case side1=>exact cc_ (Kd.R_reads' HO7.out).2.2);(case side2=>exact (Kd.R_reads' HO7.out).2.1);(case side3=>exact cc_ (Kd.R_reads' HO10.out).2.2);(case side4=>exact (Kd.R_reads' HO10.out).2.1);(case side5=>exact cc_ (Kd.R_reads' HO13.out).2.2);(case side6=>exact (Kd.R_reads' HO13.out).2.1);rintro e w38 ⟨v15,rfl,ho0,hb⟩;refine ⟨_,rfl,?_⟩;have n0_:=rb_ HO7 hb;have n1_:=a0_ (Kd.R_elder' (rr_ HO10.out) (Kd.R_base ho0) hb);have n2_:=a0_ (Kd.R_elder' (rr_ HO13.out) (Kd.R_base ho0) hb);have n3_:=a0_ (Kd.R_lower (Kd.R_new' (Kd.R_new' ho0 (Kd.R_lt (rr_ HO10.out))) (Kd.R_lt (rr_ HO13.out))) (below_size hbw_));have n4_:=kb_ BK1 hb;have n5_:=a0_ (below_step hbw_ hb);clear HO7 HO10;clear HO13 BK1 HB;have HO7:=n0_;have HO10:=n1_;have HO13:=n2_;have HO16:=n3_;have BK1:=n4_;have HB:=n5_;clear n0_ n1_ n2_ n3_ n4_ n5_;(try clear hb);(try clear ho0);have hcz39_0 : w38.cell? ⟨gb1,0,none⟩ = some (.slice A0_0 l0_0.length c0_0):=(blk_cell BK1.out 0).trans rfl;have hfz39_0:=blk_frozen BK1.out 0) | ((with_reducible refine gate_callee (f:=10) rfl ?_);refine goesL_ (some 46) rfl rfl Try.func10 (by kernel_rfl) rfl #[.agg #[.slice A0_0 l0_0.length c0_0]] rfl lm_ ?_;(with_reducible refine (laws_toTree.calls k _ _ l0_0 t18 _ ?side1 ?side2 A23.out).mono ?_);(case side1=>exact cc_ (Kd.C_below HR0_0.out HB.out));(case side2=>exact HC0_0.out);rintro e w40 ⟨v19,rfl,ho0,hb⟩;refine ⟨_,rfl,?_⟩;have n0_:=a0_ (Kd.R_elder' (rr_ HO7.out) (Kd.R_base ho0) hb);have n1_:=rb_ HO10 hb;have n2_:=rb_ HO13 hb;have n3_:=rb_ HO16 hb;have n4_:=a0_ (Kd.R_lower (Kd.R_new' ho0 (Kd.R_lt (rr_ HO7.out))) (below_size hbw_));have n5_:=kb_ BK1 hb;have n6_:=a0_ (below_step hbw_ hb);clear HO7 HO10;clear HO13 HO16;clear BK1 HB;have HO7:=n0_;have HO10:=n1_;have HO13:=n2_;have HO16:=n3_;have HO20:=n4_;have BK1:=n5_;have HB:=n6_;clear n0_ n1_ n2_ n3_ n4_ n5_ n6_;(try clear hb);(try clear ho0)) | ((with_reducible refine gate_dst (N:=10) rfl ?_);refine box_event ?hg (N:=10) ?hd (cs:=#[.slice none 0 0]) (t:=35) ?hr ?_;(case hd=>rfl);(case hg=>rfl);(case hr=>first | (go_simp;done) | (go_simp;rfl));intro gb21 hg w41 hbox hb;have n0_:=rb_ HO7 hb;have n1_:=rb_ HO10 hb;have n2_:=rb_ HO13 hb;have n3_:=rb_ HO16 hb;have n4_:=rb_ HO20 hb;have n5_:=kb_ BK1 hb;have n6_:=a0_ (below_step hbw_ hb);have n7_:=a0_ (hbox);have n8_:=a0_ ((by rw [hg];exact (below_size hbw_) : w.heap.size ≤ gb21));have n9_:=a0_ ((by rw [hg];exact (below_size hbw_) : w.heap.size ≤ gb21));have n10_:=a0_ ((by rw [hg];exact Nat.ne_of_lt (blk_lt (bb_ BK1.out)) : gb1 ≠ gb21));have n11_:=a0_ ((by rw [hg];exact Nat.ne_of_gt (blk_lt (bb_ BK1.out)) : gb21 ≠ gb1));clear HO7 HO10;clear HO13 HO16;clear HO20 BK1 HB;have HO7:=n0_;have HO10:=n1_;have HO13:=n2_;have HO16:=n3_;have HO20:=n4_;have BK1:=n5_;have HB:=n6_;have BK21:=n7_;have GW21:=n8_;have GE21:=n9_;have NB1_21:=n10_;have NB21_1:=n11_;clear n0_ n1_ n2_ n3_ n4_ n5_ n6_ n7_ n8_ n9_ n10_ n11_;clear hb hbox hg;obtain ⟨Ao42,co42,eo42⟩:=Kd.R_slice HO20.out;subst eo42;have hnb43:=NB21_1.out;have hnc43:=NB1_21.out;have hcz44_0 : w41.cell? ⟨gb21,0,none⟩ = some (.slice none 0 0):=(blk_cell BK21.out 0).trans rfl;have hfz44_0:=blk_frozen BK21.out 0) | ((with_reducible refine gate_callee (f:=11) rfl ?_);refine goesL_ (some 48) rfl rfl Try.func11 (by kernel_rfl) rfl #[.slice A1 l1.length c1] rfl lm_ ?_;(with_reducible refine (laws_toExitS.calls k _ _ l1 t22 _ ?side1 ?side2 A24.out).mono ?_);(case side1=>exact Kd.C_below HR1.out hbw_);(case side2=>exact HC1.out);rintro e w45 ⟨v23,rfl,ho0,hb⟩;refine ⟨_,rfl,?_⟩;have n0_:=a0_ (Kd.R_below (by (with_reducible repeat (first | apply Kd.R_alloc | apply Kd.R_drewN | apply Kd.R_drew));exact (Kd.R_mono (Kd.R_far (p:=⟨gb21,0,none⟩) (Kd.R_types HO7.out BK21.out (by decide)) (fun _ hk=>hk.2) (.slice Ao42 t18.length co42)) (fun _ h_=>h_.1))) hb);have n1_:=a0_ (Kd.R_elder' (by (with_reducible repeat (first | apply Kd.R_alloc | apply Kd.R_drewN | apply Kd.R_drew));exact (Kd.R_mono (Kd.R_far (p:=⟨gb21,0,none⟩) (Kd.R_types HO10.out BK21.out (by decide)) (fun _ hk=>hk.2) (.slice Ao42 t18.length co42)) (fun _ h_=>h_.1))) (Kd.R_base ho0) hb);have n2_:=a0_ (Kd.R_elder' (by (with_reducible repeat (first | apply Kd.R_alloc | apply Kd.R_drewN | apply Kd.R_drew));exact (Kd.R_mono (Kd.R_far (p:=⟨gb21,0,none⟩) (Kd.R_types HO13.out BK21.out (by decide)) (fun _ hk=>hk.2) (.slice Ao42 t18.length co42)) (fun _ h_=>h_.1))) (Kd.R_base ho0) hb);have n3_:=a0_ (Kd.R_elder' (by (with_reducible repeat (first | apply Kd.R_alloc | apply Kd.R_drewN | apply Kd.R_drew));exact (Kd.R_mono (Kd.R_far (p:=⟨gb21,0,none⟩) (Kd.R_types HO16.out BK21.out (by decide)) (fun _ hk=>hk.2) (.slice Ao42 t18.length co42)) (fun _ h_=>h_.1))) (Kd.R_base ho0) hb);have n4_:=a0_ (Kd.R_below (by (with_reducible repeat (first | apply Kd.R_alloc | apply Kd.R_drewN | apply Kd.R_drew));exact (Kd.R_mono (Kd.R_far (p:=⟨gb21,0,none⟩) (Kd.R_types HO20.out BK21.out (by decide)) (fun _ hk=>hk.2) (.slice Ao42 t18.length co42)) (fun _ h_=>h_.1))) hb);have n5_:=a0_ (Kd.R_lower (Kd.R_new' (Kd.R_new' (Kd.R_new' ho0 (Kd.R_lt (by (with_reducible repeat (first | apply Kd.R_alloc | apply Kd.R_drewN | apply Kd.R_drew));exact (Kd.R_mono (Kd.R_far (p:=⟨gb21,0,none⟩) (Kd.R_types HO10.out BK21.out (by decide)) (fun _ hk=>hk.2) (.slice Ao42 t18.length co42)) (fun _ h_=>h_.1))))) (Kd.R_lt (by (with_reducible repeat (first | apply Kd.R_alloc | apply Kd.R_drewN | apply Kd.R_drew));exact (Kd.R_mono (Kd.R_far (p:=⟨gb21,0,none⟩) (Kd.R_types HO13.out BK21.out (by decide)) (fun _ hk=>hk.2) (.slice Ao42 t18.length co42)) (fun _ h_=>h_.1))))) (Kd.R_lt (by (with_reducible repeat (first | apply Kd.R_alloc | apply Kd.R_drewN | apply Kd.R_drew));exact (Kd.R_mono (Kd.R_far (p:=⟨gb21,0,none⟩) (Kd.R_types HO16.out BK21.out (by decide)) (fun _ hk=>hk.2) (.slice Ao42 t18.length co42)) (fun _ h_=>h_.1))))) (below_size hbw_));have n6_:=kf_ BK1 NB1_21 hb;have n7_:=a0_ (blk_below (g:=gb21) (o:=.cells #[.slice Ao42 t18.length co42] 35 (0,0)) (by (with_reducible repeat (first | refine blk_drewN ?_ _ | refine blk_drew ?_ | refine blk_alloc ?_ _));refine blk_put (cs:=#[.slice none 0 0]) ?_ 0 _ rfl;(with_reducible repeat (first | refine blk_drewN ?_ _ | refine blk_drew ?_ | refine blk_alloc ?_ _));exact BK21.out) hb);have n8_:=a0_ (below_step hbw_ hb);clear HO7 HO10;clear HO13 HO16;clear HO20 BK1;clear BK21 HB;have HO7:=n0_;have HO10:=n1_;have HO13:=n2_;have HO16:=n3_;have HO20:=n4_;have HO24:=n5_;have BK1:=n6_;have BK21:=n7_;have HB:=n8_;clear n0_ n1_ n2_ n3_ n4_ n5_ n6_ n7_ n8_;(try clear hb);(try clear ho0)) | ((with_reducible refine gate_callee (f:=11) rfl ?_);refine goesL_ (some 50) rfl rfl Try.func11 (by kernel_rfl) rfl #[.slice A2 l2.length c2] rfl lm_ ?_;(with_reducible refine (laws_toExitS.calls k _ _ l2 t25 _ ?side1 ?side2 A25.out).mono ?_);(case side1=>exact cc_ (Kd.C_below HR2.out HB.out));(case side2=>exact HC2.out);rintro e w46 ⟨v26,rfl,ho0,hb⟩;refine ⟨_,rfl,?_⟩;have n0_:=rb_ HO7 hb;have n1_:=a0_ (Kd.R_elder' (rr_ HO10.out) (Kd.R_base ho0) hb);have n2_:=a0_ (Kd.R_elder' (rr_ HO13.out) (Kd.R_base ho0) hb);have n3_:=a0_ (Kd.R_elder' (rr_ HO16.out) (Kd.R_base ho0) hb);have n4_:=rb_ HO20 hb;have n5_:=a0_ (Kd.R_elder' (rr_ HO24.out) (Kd.R_base ho0) hb);have n6_:=a0_ (Kd.R_lower (Kd.R_new' (Kd.R_new' (Kd.R_new' (Kd.R_new' ho0 (Kd.R_lt (rr_ HO10.out))) (Kd.R_lt (rr_ HO13.out))) (Kd.R_lt (rr_ HO16.out))) (Kd.R_lt (rr_ HO24.out))) (below_size hbw_));have n7_:=kb_ BK1 hb;have n8_:=kb_ BK21 hb;have n9_:=a0_ (below_step hbw_ hb);clear HO7 HO10;clear HO13 HO16;clear HO20 HO24;clear BK1 BK21 HB;have HO7:=n0_;have HO10:=n1_;have HO13:=n2_;have HO16:=n3_;have HO20:=n4_;have HO24:=n5_;have HO27:=n6_;have BK1:=n7_;have BK21:=n8_;have HB:=n9_;clear n0_ n1_ n2_ n3_ n4_ n5_ n6_ n7_ n8_ n9_;(try clear hb);(try clear ho0);have hcz47_0 : w46.cell? ⟨gb21,0,none⟩ = some (.slice Ao42 t18.length co42):=(blk_cell BK21.out 0).trans rfl;have hfz47_0:=blk_frozen BK21.out 0;obtain ⟨Ao48,co48,eo48⟩:=Kd.R_slice HO24.out;subst eo48;obtain ⟨Ao49,co49,eo49⟩:=Kd.R_slice HO27.out;subst eo49) | ((with_reducible refine gate_callee (f:=23) rfl ?_);refine goesL_ (some 55) rfl rfl Try.func23 (by kernel_rfl) rfl #[.agg #[.slice Ao42 t18.length co42],.slice Ao48 t22.length co48,.slice Ao49 t25.length co49] rfl lm_ ?_;(with_reducible refine (impl_JoinExits.calls _ _ t18 _ _ t22 _ _ t25 t28 t31 _ ?side1 ?side2 ?side3 ?side4 ?side5 ?side6 A26.out).mono ?_);(case side1=>exact cc_ (Kd.R_reads' HO20.out).2.2);(case side2=>exact (Kd.R_reads' HO20.out).2.1);(case side3=>exact cc_ (Kd.R_reads' HO24.out).2.2);(case side4=>exact (Kd.R_reads' HO24.out).2.1);(case side5=>exact cc_ (Kd.R_reads' HO27.out).2.2);(case side6=>exact (Kd.R_reads' HO27.out).2.1);rintro e w50 ⟨v29,rfl,ho0,hb⟩;refine ⟨_,rfl,?_⟩;have n0_:=rb_ HO7 hb;have n1_:=a0_ (Kd.R_elder' (rr_ HO10.out) (Kd.R_base ho0) hb);have n2_:=a0_ (Kd.R_elder' (rr_ HO13.out) (Kd.R_base ho0) hb);have n3_:=a0_ (Kd.R_elder' (rr_ HO16.out) (Kd.R_base ho0) hb);have n4_:=rb_ HO20 hb;have n5_:=a0_ (Kd.R_elder' (rr_ HO24.out) (Kd.R_base ho0) hb);have n6_:=a0_ (Kd.R_elder' (rr_ HO27.out) (Kd.R_base ho0) hb);have n7_:=a0_ (Kd.R_lower (Kd.R_new' (Kd.R_new' (Kd.R_new' (Kd.R_new' (Kd.R_new' ho0 (Kd.R_lt (rr_ HO10.out))) (Kd.R_lt (rr_ HO13.out))) (Kd.R_lt (rr_ HO16.out))) (Kd.R_lt (rr_ HO24.out))) (Kd.R_lt (rr_ HO27.out))) (below_size hbw_));have n8_:=kb_ BK1 hb;have n9_:=kb_ BK21 hb;have n10_:=a0_ (below_step hbw_ hb);clear HO7 HO10;clear HO13 HO16;clear HO20 HO24;clear HO27 BK1;clear BK21 HB;have HO7:=n0_;have HO10:=n1_;have HO13:=n2_;have HO16:=n3_;have HO20:=n4_;have HO24:=n5_;have HO27:=n6_;have HO30:=n7_;have BK1:=n8_;have BK21:=n9_;have HB:=n10_;clear n0_ n1_ n2_ n3_ n4_ n5_ n6_ n7_ n8_ n9_ n10_;(try clear hb);(try clear ho0)))
    (try simp only [Act.put,s1_,s2_,s3_])
    go_cut [66] (fun v66 wc=>∃ (kq : Nat) (x66_26 : Bool),v66 = .bool x66_26 ∧ Aside0 (laws_FnExactJoinExits.j0 kq l1 l2 t14 t17 t22 t25 t28 t31 x66_26 l0_0 t18 = some r) ∧ Aside0 (kq ≤ k) ∧ Aside0 (Kd.R k38 38 wc w.heap.size (fun k_=>some k_ ≠ ((.slice Ao48 t22.length co48) : Value).ownBlock ∧ some k_ ≠ ((.slice Ao49 t25.length co49) : Value).ownBlock ∧ some k_ ≠ (v29 : Value).ownBlock) v15 t14) ∧ Aside0 (Kd.R k38 38 wc w.heap.size (fun k_=>some k_ ≠ (v15 : Value).ownBlock ∧ some k_ ≠ ((.slice Ao49 t25.length co49) : Value).ownBlock ∧ some k_ ≠ (v29 : Value).ownBlock) (.slice Ao48 t22.length co48) t22) ∧ Aside0 (Kd.R k38 38 wc w.heap.size (fun k_=>some k_ ≠ (v15 : Value).ownBlock ∧ some k_ ≠ ((.slice Ao48 t22.length co48) : Value).ownBlock ∧ some k_ ≠ (v29 : Value).ownBlock) (.slice Ao49 t25.length co49) t25) ∧ Aside0 (Kd.R k38 38 wc w.heap.size (fun k_=>some k_ ≠ (v15 : Value).ownBlock ∧ some k_ ≠ ((.slice Ao48 t22.length co48) : Value).ownBlock ∧ some k_ ≠ ((.slice Ao49 t25.length co49) : Value).ownBlock) v29 t28) ∧ Aside0 (Kd.R k76 76 wc w.heap.size (fun _=>True) (.slice Ao42 t18.length co42) t18) ∧ Aside0 (wc.heap[gb1]? = some (.cells #[(.slice A0_0 l0_0.length c0_0)] 24 (0,0))) ∧ Aside0 (wc.heap[gb21]? = some (.cells #[(.slice Ao42 t18.length co42)] 35 (0,0))) ∧ Aside0 (Below w.heap.size w wc))
    case first =>
     have H:=HC27.out
     clear HC27
     replace H:=Option.bind_eq_some_iff.mp H
     obtain ⟨t32,A510,H⟩:=H
     try dsimp only at H
     have A51:=a0_ A510
     clear A510
     by_cases c52 : t32 = true
     ·subst c52
      have H1 : (laws_FnExactJoinExits.j0 k l1 l2 t14 t17 t22 t25 t28 t31 (t31 != t17) l0_0 t18) = some r:=by rw [if_pos rfl] at H;exact H
      clear H
      have H:=H1
      clear H1
      have H':=a0_ H
      clear H
      obtain ⟨Ao53,co53,eo53⟩:=Kd.R_slice HO30.out
      subst eo53
      obtain ⟨Ao54,co54,eo54⟩:=Kd.R_slice HO16.out
      subst eo54
      go_wp2_with (first | ((with_reducible refine gate_callee (f:=14) rfl ?_);refine goesL_ (some 60) rfl rfl Try.func14 (by kernel_rfl) rfl #[.slice Ao53 t28.length co53,.slice Ao54 t14.length co54] rfl lm_ ?_;(with_reducible refine (laws_eqExitS.calls k _ _ t28 _ _ t14 true _ ?side1 ?side2 ?side3 ?side4 A51.out).mono ?_);(case side1=>exact cc_ (Kd.R_reads' HO30.out).2.2);(case side2=>exact (Kd.R_reads' HO30.out).2.1);(case side3=>exact cc_ (Kd.R_reads' HO16.out).2.2);(case side4=>exact (Kd.R_reads' HO16.out).2.1);rintro e w55 ⟨rfl,hb⟩;refine ⟨_,rfl,?_⟩;replace HO7:=rb_ HO7 hb;replace HO10:=rb_ HO10 hb;replace HO13:=rb_ HO13 hb;replace HO16:=rb_ HO16 hb;replace HO20:=rb_ HO20 hb;replace HO24:=rb_ HO24 hb;replace HO27:=rb_ HO27 hb;replace HO30:=rb_ HO30 hb;replace BK1:=kb_ BK1 hb;replace BK21:=kb_ BK21 hb;replace HB:=a0_ (below_step hbw_ hb);(try clear hb);(try clear hb2);(try clear hk);(try clear hi)))
      go_meet
      case rel=>exact ⟨_,((t31 != t17)),(by first | rfl | (simp;done) | (simp [*];done)),H',⟨by first | omega | exact Nat.le_refl _⟩,⟨by (with_reducible repeat (first | apply Kd.R_alloc | apply Kd.R_drewN | apply Kd.R_drew));exact Kd.R_mono HO16.out (fun _ hk=>⟨hk.1.1.2,⟨hk.1.2,hk.2⟩⟩)⟩,⟨by (with_reducible repeat (first | apply Kd.R_alloc | apply Kd.R_drewN | apply Kd.R_drew));exact Kd.R_mono HO24.out (fun _ hk=>⟨hk.1.1.2,⟨hk.1.2,hk.2⟩⟩)⟩,⟨by (with_reducible repeat (first | apply Kd.R_alloc | apply Kd.R_drewN | apply Kd.R_drew));exact Kd.R_mono HO27.out (fun _ hk=>⟨hk.1.1.2,⟨hk.1.2,hk.2⟩⟩)⟩,⟨by (with_reducible repeat (first | apply Kd.R_alloc | apply Kd.R_drewN | apply Kd.R_drew));exact Kd.R_mono HO30.out (fun _ hk=>⟨hk.1.1.2,⟨hk.1.2,hk.2⟩⟩)⟩,⟨by (with_reducible repeat (first | apply Kd.R_alloc | apply Kd.R_drewN | apply Kd.R_drew));exact Kd.R_mono HO20.out (fun _ hk=>trivial)⟩,⟨by (with_reducible repeat (first | refine blk_drewN ?_ _ | refine blk_drew ?_ | refine blk_alloc ?_ _));exact BK1.out⟩,⟨by (with_reducible repeat (first | refine blk_drewN ?_ _ | refine blk_drew ?_ | refine blk_alloc ?_ _));exact BK21.out⟩,⟨hbw_⟩⟩
     ·replace c52:=Bool.eq_false_iff.mpr c52
      subst c52
      have H1 : (laws_FnExactJoinExits.j0 k l1 l2 t14 t17 t22 t25 t28 t31 true l0_0 t18) = some r:=by rw [if_neg (show ¬ (false = true) by decide)] at H;exact H
      clear H
      have H:=H1
      clear H1
      have H':=a0_ H
      clear H
      obtain ⟨Ao56,co56,eo56⟩:=Kd.R_slice HO30.out
      subst eo56
      obtain ⟨Ao57,co57,eo57⟩:=Kd.R_slice HO16.out
      subst eo57
      go_wp2_with (first | ((with_reducible refine gate_callee (f:=14) rfl ?_);refine goesL_ (some 60) rfl rfl Try.func14 (by kernel_rfl) rfl #[.slice Ao56 t28.length co56,.slice Ao57 t14.length co57] rfl lm_ ?_;(with_reducible refine (laws_eqExitS.calls k _ _ t28 _ _ t14 false _ ?side1 ?side2 ?side3 ?side4 A51.out).mono ?_);(case side1=>exact cc_ (Kd.R_reads' HO30.out).2.2);(case side2=>exact (Kd.R_reads' HO30.out).2.1);(case side3=>exact cc_ (Kd.R_reads' HO16.out).2.2);(case side4=>exact (Kd.R_reads' HO16.out).2.1);rintro e w58 ⟨rfl,hb⟩;refine ⟨_,rfl,?_⟩;replace HO7:=rb_ HO7 hb;replace HO10:=rb_ HO10 hb;replace HO13:=rb_ HO13 hb;replace HO16:=rb_ HO16 hb;replace HO20:=rb_ HO20 hb;replace HO24:=rb_ HO24 hb;replace HO27:=rb_ HO27 hb;replace HO30:=rb_ HO30 hb;replace BK1:=kb_ BK1 hb;replace BK21:=kb_ BK21 hb;replace HB:=a0_ (below_step hbw_ hb);(try clear hb);(try clear hb2);(try clear hk);(try clear hi)))
      go_meet
      case rel=>exact ⟨_,(true),(by first | rfl | (simp;done) | (simp [*];done)),H',⟨by first | omega | exact Nat.le_refl _⟩,⟨by (with_reducible repeat (first | apply Kd.R_alloc | apply Kd.R_drewN | apply Kd.R_drew));exact Kd.R_mono HO16.out (fun _ hk=>⟨hk.1.1.2,⟨hk.1.2,hk.2⟩⟩)⟩,⟨by (with_reducible repeat (first | apply Kd.R_alloc | apply Kd.R_drewN | apply Kd.R_drew));exact Kd.R_mono HO24.out (fun _ hk=>⟨hk.1.1.2,⟨hk.1.2,hk.2⟩⟩)⟩,⟨by (with_reducible repeat (first | apply Kd.R_alloc | apply Kd.R_drewN | apply Kd.R_drew));exact Kd.R_mono HO27.out (fun _ hk=>⟨hk.1.1.2,⟨hk.1.2,hk.2⟩⟩)⟩,⟨by (with_reducible repeat (first | apply Kd.R_alloc | apply Kd.R_drewN | apply Kd.R_drew));exact Kd.R_mono HO30.out (fun _ hk=>⟨hk.1.1.2,⟨hk.1.2,hk.2⟩⟩)⟩,⟨by (with_reducible repeat (first | apply Kd.R_alloc | apply Kd.R_drewN | apply Kd.R_drew));exact Kd.R_mono HO20.out (fun _ hk=>trivial)⟩,⟨by (with_reducible repeat (first | refine blk_drewN ?_ _ | refine blk_drew ?_ | refine blk_alloc ?_ _));exact BK1.out⟩,⟨by (with_reducible repeat (first | refine blk_drewN ?_ _ | refine blk_drew ?_ | refine blk_alloc ?_ _));exact BK21.out⟩,⟨hbw_⟩⟩
    case rest =>
     clear HC27
     try clear c1
     try clear c2
     try clear p2
     try clear c4
     try clear c5
     try clear c5b0
     try clear c7
     try clear c8
     try clear c10
     try clear c10b0
     try clear c11
     try clear c14
     try clear c15
     try clear c15b0
     try clear c22
     try clear c23
     try clear c43
     try clear c52
     try clear hcz12_0
     try clear hcz17_0
     try clear hcz29_0
     try clear hcz31_0
     try clear hcz39_0
     try clear hcz44_0
     try clear hcz47_0
     try clear hcz7_0
     try clear hfz12_0
     try clear hfz17_0
     try clear hfz29_0
     try clear hfz31_0
     try clear hfz39_0
     try clear hfz44_0
     try clear hfz47_0
     try clear hfz7_0
     obtain ⟨kq,x66_26,rfl,HA,HJ26,HO_8,HO_11,HO_12,HO_13,Z22,BK1,BK21,HB⟩:=hcut
     cases kq with
     | zero=>exact absurd HA.out (by simp [laws_FnExactJoinExits.j0])
     | succ kj26 =>
      have H:=HA.out
      clear HA
      simp only [laws_FnExactJoinExits.j0] at H
      by_cases c59 : x66_26 = true
      ·subst c59
       have H1 : (some false) = some r:=by rw [if_pos rfl] at H;exact H
       clear H
       have H:=H1
       clear H1
       obtain rfl:=Option.some.inj H
       go_wp2
       go_ret
       exact ⟨by first | rfl | (simp [errW_none,errW_some] <;> rfl) | (simp [*,errW_none,errW_some] <;> rfl),hbw_⟩
      ·replace c59:=Bool.eq_false_iff.mpr c59
       subst c59
       have H1 : ((laws_toTree.f kj26 l0_0).bind fun t33=>((laws_eqTree.f kj26 t18 t33).bind fun t36=>(if t36 = true then ((laws_toExitS.f kj26 l1).bind fun t37=>((laws_eqExitS.f kj26 t22 t37).bind fun t40=>(if t40 = true then ((laws_toExitS.f kj26 l2).bind fun t41=>((laws_eqExitS.f kj26 t25 t41).bind fun t44=>(if t44 = true then ((laws_markTree.f kj26 t18 1).bind fun bt45=>((laws_markExitS.f kj26 t22 bt45.1).bind fun bt47=>((laws_markExitS.f kj26 t25 bt47.1).bind fun bt49=>(if bt49.1 < 0 then (laws_FnExactJoinExits.j1 kj26 l1 l2 t14 t17 t28 true l0_0) else ((laws_eqExitS.f kj26 t28 t14).bind fun t51=>(if t51 = true then (laws_FnExactJoinExits.j1 kj26 l1 l2 t14 t17 t28 (t31 != t17) l0_0) else (laws_FnExactJoinExits.j1 kj26 l1 l2 t14 t17 t28 true l0_0))))))) else (some false)))) else (some false)))) else (some false)))) = some r:=by rw [if_neg (show ¬ (false = true) by decide)] at H;exact H
       clear H
       have H:=H1
       clear H1
       replace H:=Option.bind_eq_some_iff.mp H
       obtain ⟨t33,A600,H⟩:=H
       try dsimp only at H
       have A60:=a0_ A600
       clear A600
       replace H:=Option.bind_eq_some_iff.mp H
       obtain ⟨t36,A610,H⟩:=H
       try dsimp only at H
       have A61:=a0_ A610
       clear A610
       by_cases c62 : t36 = true
       ·subst c62
        have H1 : ((laws_toExitS.f kj26 l1).bind fun t37=>((laws_eqExitS.f kj26 t22 t37).bind fun t40=>(if t40 = true then ((laws_toExitS.f kj26 l2).bind fun t41=>((laws_eqExitS.f kj26 t25 t41).bind fun t44=>(if t44 = true then ((laws_markTree.f kj26 t18 1).bind fun bt45=>((laws_markExitS.f kj26 t22 bt45.1).bind fun bt47=>((laws_markExitS.f kj26 t25 bt47.1).bind fun bt49=>(if bt49.1 < 0 then (laws_FnExactJoinExits.j1 kj26 l1 l2 t14 t17 t28 true l0_0) else ((laws_eqExitS.f kj26 t28 t14).bind fun t51=>(if t51 = true then (laws_FnExactJoinExits.j1 kj26 l1 l2 t14 t17 t28 (t31 != t17) l0_0) else (laws_FnExactJoinExits.j1 kj26 l1 l2 t14 t17 t28 true l0_0))))))) else (some false)))) else (some false)))) = some r:=by rw [if_pos rfl] at H;exact H
        clear H
        have H:=H1
        clear H1
        replace H:=Option.bind_eq_some_iff.mp H
        obtain ⟨t37,A630,H⟩:=H
        try dsimp only at H
        have A63:=a0_ A630
        clear A630
        replace H:=Option.bind_eq_some_iff.mp H
        obtain ⟨t40,A640,H⟩:=H
        try dsimp only at H
        have A64:=a0_ A640
        clear A640
        by_cases c65 : t40 = true
        ·subst c65
         have H1 : ((laws_toExitS.f kj26 l2).bind fun t41=>((laws_eqExitS.f kj26 t25 t41).bind fun t44=>(if t44 = true then ((laws_markTree.f kj26 t18 1).bind fun bt45=>((laws_markExitS.f kj26 t22 bt45.1).bind fun bt47=>((laws_markExitS.f kj26 t25 bt47.1).bind fun bt49=>(if bt49.1 < 0 then (laws_FnExactJoinExits.j1 kj26 l1 l2 t14 t17 t28 true l0_0) else ((laws_eqExitS.f kj26 t28 t14).bind fun t51=>(if t51 = true then (laws_FnExactJoinExits.j1 kj26 l1 l2 t14 t17 t28 (t31 != t17) l0_0) else (laws_FnExactJoinExits.j1 kj26 l1 l2 t14 t17 t28 true l0_0))))))) else (some false)))) = some r:=by rw [if_pos rfl] at H;exact H
         clear H
         have H:=H1
         clear H1
         replace H:=Option.bind_eq_some_iff.mp H
         obtain ⟨t41,A660,H⟩:=H
         try dsimp only at H
         have A66:=a0_ A660
         clear A660
         replace H:=Option.bind_eq_some_iff.mp H
         obtain ⟨t44,A670,H⟩:=H
         try dsimp only at H
         have A67:=a0_ A670
         clear A670
         by_cases c68 : t44 = true
         ·subst c68
          have H1 : ((laws_markTree.f kj26 t18 1).bind fun bt45=>((laws_markExitS.f kj26 t22 bt45.1).bind fun bt47=>((laws_markExitS.f kj26 t25 bt47.1).bind fun bt49=>(if bt49.1 < 0 then (laws_FnExactJoinExits.j1 kj26 l1 l2 t14 t17 t28 true l0_0) else ((laws_eqExitS.f kj26 t28 t14).bind fun t51=>(if t51 = true then (laws_FnExactJoinExits.j1 kj26 l1 l2 t14 t17 t28 (t31 != t17) l0_0) else (laws_FnExactJoinExits.j1 kj26 l1 l2 t14 t17 t28 true l0_0))))))) = some r:=by rw [if_pos rfl] at H;exact H
          clear H
          have H:=H1
          clear H1
          replace H:=Option.bind_eq_some_iff.mp H
          obtain ⟨⟨t45,t46⟩,A690,H⟩:=H
          try dsimp only at H
          have A69:=a0_ A690
          clear A690
          replace H:=Option.bind_eq_some_iff.mp H
          obtain ⟨⟨t47,t48⟩,A700,H⟩:=H
          try dsimp only at H
          have A70:=a0_ A700
          clear A700
          replace H:=Option.bind_eq_some_iff.mp H
          obtain ⟨⟨t49,t50⟩,A710,H⟩:=H
          try dsimp only at H
          have A71:=a0_ A710
          clear A710
          have HC72:=a0_ H
          clear H
          try go_wp2
          have n0_:=a0_ (Kd.R_drew HO_8.out)
          have n1_:=a0_ (Kd.R_drew HO_11.out)
          have n2_:=a0_ (Kd.R_drew HO_12.out)
          have n3_:=a0_ (Kd.R_drew HO_13.out)
          have n4_:=a0_ (Kd.R_drew Z22.out)
          have n5_:=a0_ (blk_drew BK1.out)
          have n6_:=a0_ (blk_drew BK21.out)
          have n7_:=a0_ (below_drew1 HB.out)
          clear HO_8
          clear HO_11
          clear HO_12
          clear HO_13
          clear Z22
          clear BK1
          clear BK21
          clear HB
          have HO_8:=n0_
          have HO_11:=n1_
          have HO_12:=n2_
          have HO_13:=n3_
          have Z22:=n4_
          have BK1:=n5_
          have BK21:=n6_
          have HB:=n7_
          clear n0_ n1_ n2_ n3_ n4_ n5_ n6_ n7_
          refine start_ (n:=5) (S:=fun w'=>w'.cell? ⟨gb21,0,none⟩ = some (.slice Ao42 t18.length co42) ∧ w'.cell? ⟨gb1,0,none⟩ = some (.slice A0_0 l0_0.length c0_0)) (ds:=[]) #[false,false,false,false,false] (by kernel_rfl) rfl rfl ⟨(blk_cell BK21.out 0).trans rfl,(blk_cell BK1.out 0).trans rfl⟩ (fun hHeld=>?_)
          generalize wc.drew = w73 at HO_8 HO_11 HO_12 HO_13 Z22 BK1 BK21 HB hHeld ⊢
          refine take_ (i:=0) (N:=some 67) (v:=?_) (a':=?_) #[true,false,false,false,false] rfl rfl (by kernel_rfl) (fun _ _ _ h=>h) (Or.inl ⟨by rfl,?_⟩) hHeld ?_ ?_
          rotate_left
          ·rintro w' ⟨s0,s1⟩
           go_simp
           with_reducible rfl
          rotate_left
          ·simp only [Act.put,s1_,s2_,s3_,i64_w,i32_w]
           rfl
          refine take_ (i:=1) (N:=some 68) (v:=?_) (a':=?_) #[true,true,false,false,false] rfl rfl (by kernel_rfl) (fun _ _ _ h=>h) (Or.inl ⟨by rfl,?_⟩) hHeld ?_ ?_
          rotate_left
          ·rintro w' ⟨s0,s1⟩
           go_simp
           with_reducible rfl
          rotate_left
          ·simp only [Act.put,s1_,s2_,s3_,i64_w,i32_w]
           rfl
          refine one_ (i:=2) (N:=some 69) #[true,true,true,false,false] rfl rfl (by kernel_rfl) (by decide) (fun K hK=>?_)
          refine goes_ Try.func10 (by kernel_rfl) rfl #[.agg #[.slice A0_0 l0_0.length c0_0]] (by rfl) rfl rfl lm_ ?_
          with_reducible refine (laws_toTree.calls kj26 _ _ l0_0 t33 _ ?side1 ?side2 A60.out).mono ?_
          (case side1=>exact cc_ (Kd.C_below HR0_0.out HB.out))
          (case side2=>exact HC0_0.out)
          rintro e w74 ⟨v34,rfl,ho0,hb⟩
          refine ⟨_,rfl,?_⟩
          have n0_:=rb_ HO_8 hb
          have n1_:=rb_ HO_11 hb
          have n2_:=rb_ HO_12 hb
          have n3_:=rb_ HO_13 hb
          have n4_:=a0_ (Kd.R_elder' (rr_ Z22.out) (Kd.R_base ho0) hb)
          have n5_:=a0_ (Kd.R_lower (Kd.R_new' ho0 (Kd.R_lt (rr_ Z22.out))) (below_size hbw_))
          have n6_:=kb_ BK1 hb
          have n7_:=kb_ BK21 hb
          have n8_:=a0_ (below_step hbw_ hb)
          clear HO_8
          clear HO_11
          clear HO_12
          clear HO_13
          clear Z22
          clear BK1
          clear BK21
          clear HB
          have HO_8:=n0_
          have HO_11:=n1_
          have HO_12:=n2_
          have HO_13:=n3_
          have Z22:=n4_
          have HO35:=n5_
          have BK1:=n6_
          have BK21:=n7_
          have HB:=n8_
          clear n0_ n1_ n2_ n3_ n4_ n5_ n6_ n7_ n8_
          (try clear hb)
          (try clear hb2)
          (try clear hk)
          (try clear hi)
          (try clear ho0)
          obtain ⟨Ao75,co75,eo75⟩:=Kd.R_slice HO35.out
          (first | subst eo75 | (injection eo75 with f1_ f2_ f3_;have f4_:=f1_.symm;have f5_:=f3_.symm;clear f1_ f2_ f3_;subst f4_;subst f5_))
          refine hK.out _ _ ⟨(blk_cell BK21.out 0).trans rfl,(blk_cell BK1.out 0).trans rfl⟩ (fun hHeld=>?_)
          clear hK K
          refine norm_ (a':=?_) ?_ ?_
          rotate_left
          ·show Act.put _ (some 69) _ = _
           simp only [Act.put,s1_,s2_,s3_,i64_w,i32_w]
           rfl
          refine one_ (i:=3) (N:=some 70) #[true,true,true,true,false] rfl rfl (by kernel_rfl) (by decide) (fun K hK=>?_)
          refine goes_ Try.func15 (by kernel_rfl) rfl #[.agg #[.slice Ao42 t18.length co42],.agg #[.slice Ao75 t33.length co75]] (by rfl) rfl rfl lm_ ?_
          with_reducible refine (laws_eqTree.calls kj26 _ _ t18 _ _ t33 true _ ?side1 ?side2 ?side3 ?side4 A61.out).mono ?_
          (case side1=>exact cc_ (Kd.R_reads' Z22.out).2.2)
          (case side2=>exact (Kd.R_reads' Z22.out).2.1)
          (case side3=>exact cc_ (Kd.R_reads' HO35.out).2.2)
          (case side4=>exact (Kd.R_reads' HO35.out).2.1)
          rintro e w76 ⟨rfl,hb⟩
          refine ⟨_,rfl,?_⟩
          have n0_:=rb_ HO_8 hb
          have n1_:=rb_ HO_11 hb
          have n2_:=rb_ HO_12 hb
          have n3_:=rb_ HO_13 hb
          have n4_:=rb_ Z22 hb
          have n5_:=rb_ HO35 hb
          have n6_:=kb_ BK1 hb
          have n7_:=kb_ BK21 hb
          have n8_:=a0_ (below_step hbw_ hb)
          clear HO_8
          clear HO_11
          clear HO_12
          clear HO_13
          clear Z22
          clear HO35
          clear BK1
          clear BK21
          clear HB
          have HO_8:=n0_
          have HO_11:=n1_
          have HO_12:=n2_
          have HO_13:=n3_
          have Z22:=n4_
          have HO35:=n5_
          have BK1:=n6_
          have BK21:=n7_
          have HB:=n8_
          clear n0_ n1_ n2_ n3_ n4_ n5_ n6_ n7_ n8_
          (try clear hb)
          (try clear hb2)
          (try clear hk)
          (try clear hi)
          refine hK.out _ _ ⟨(blk_cell BK21.out 0).trans rfl,(blk_cell BK1.out 0).trans rfl⟩ (fun hHeld=>?_)
          clear hK K
          refine norm_ (a':=?_) ?_ ?_
          rotate_left
          ·show Act.put _ (some 70) _ = _
           simp only [Act.put,s1_,s2_,s3_,i64_w,i32_w]
           rfl
          refine pure_ (i:=4) (N:=some 71) (v:=?_) (a':=?_) #[true,true,true,true,true] rfl rfl (by kernel_rfl) (fun _ _ _ h=>h) (Or.inl ⟨by rfl,?_⟩) ?_ ?_
          rotate_left
          ·intro w'
           go_simp
           with_reducible rfl
          rotate_left
          ·simp only [Act.put,s1_,s2_,s3_,i64_w,i32_w]
           rfl
          refine done_ (by kernel_rfl) ?_
          go_upto_region 28 with (first | ((with_reducible refine gate_callee (f:=11) rfl ?_);refine goesL_ (some 74) rfl rfl Try.func11 (by kernel_rfl) rfl #[.slice A1 l1.length c1] rfl lm_ ?_;(with_reducible refine (laws_toExitS.calls kj26 _ _ l1 t37 _ ?side1 ?side2 A63.out).mono ?_);(case side1=>exact cc_ (Kd.C_below HR1.out HB.out));(case side2=>exact HC1.out);rintro e w77 ⟨v38,rfl,ho0,hb⟩;refine ⟨_,rfl,?_⟩;have n0_:=a0_ (Kd.R_elder' (rr_ HO_8.out) (Kd.R_base ho0) hb);have n1_:=a0_ (Kd.R_elder' (rr_ HO_11.out) (Kd.R_base ho0) hb);have n2_:=a0_ (Kd.R_elder' (rr_ HO_12.out) (Kd.R_base ho0) hb);have n3_:=a0_ (Kd.R_elder' (rr_ HO_13.out) (Kd.R_base ho0) hb);have n4_:=rb_ Z22 hb;have n5_:=rb_ HO35 hb;have n6_:=a0_ (Kd.R_lower (Kd.R_new' (Kd.R_new' (Kd.R_new' (Kd.R_new' ho0 (Kd.R_lt (rr_ HO_8.out))) (Kd.R_lt (rr_ HO_11.out))) (Kd.R_lt (rr_ HO_12.out))) (Kd.R_lt (rr_ HO_13.out))) (below_size hbw_));have n7_:=kb_ BK1 hb;have n8_:=kb_ BK21 hb;have n9_:=a0_ (below_step hbw_ hb);clear HO_8 HO_11;clear HO_12 HO_13;clear Z22 HO35;clear BK1 BK21 HB;have HO_8:=n0_;have HO_11:=n1_;have HO_12:=n2_;have HO_13:=n3_;have Z22:=n4_;have HO35:=n5_;have HO39:=n6_;have BK1:=n7_;have BK21:=n8_;have HB:=n9_;clear n0_ n1_ n2_ n3_ n4_ n5_ n6_ n7_ n8_ n9_;(try clear hb);(try clear ho0);obtain ⟨Ao78,co78,eo78⟩:=Kd.R_slice HO39.out;subst eo78) | ((with_reducible refine gate_callee (f:=14) rfl ?_);refine goesL_ (some 75) rfl rfl Try.func14 (by kernel_rfl) rfl #[.slice Ao48 t22.length co48,.slice Ao78 t37.length co78] rfl lm_ ?_;(with_reducible refine (laws_eqExitS.calls kj26 _ _ t22 _ _ t37 true _ ?side1 ?side2 ?side3 ?side4 A64.out).mono ?_);(case side1=>exact cc_ (Kd.R_reads' HO_11.out).2.2);(case side2=>exact (Kd.R_reads' HO_11.out).2.1);(case side3=>exact cc_ (Kd.R_reads' HO39.out).2.2);(case side4=>exact (Kd.R_reads' HO39.out).2.1);rintro e w79 ⟨rfl,hb⟩;refine ⟨_,rfl,?_⟩;replace HO_8:=rb_ HO_8 hb;replace HO_11:=rb_ HO_11 hb;replace HO_12:=rb_ HO_12 hb;replace HO_13:=rb_ HO_13 hb;replace Z22:=rb_ Z22 hb;replace HO35:=rb_ HO35 hb;replace HO39:=rb_ HO39 hb;replace BK1:=kb_ BK1 hb;replace BK21:=kb_ BK21 hb;replace HB:=a0_ (below_step hbw_ hb);(try clear hb);(try clear hb2);(try clear hk);(try clear hi)) | ((with_reducible refine gate_callee (f:=11) rfl ?_);refine goesL_ (some 79) rfl rfl Try.func11 (by kernel_rfl) rfl #[.slice A2 l2.length c2] rfl lm_ ?_;(with_reducible refine (laws_toExitS.calls kj26 _ _ l2 t41 _ ?side1 ?side2 A66.out).mono ?_);(case side1=>exact cc_ (Kd.C_below HR2.out HB.out));(case side2=>exact HC2.out);rintro e w80 ⟨v42,rfl,ho0,hb⟩;refine ⟨_,rfl,?_⟩;have n0_:=a0_ (Kd.R_elder' (rr_ HO_8.out) (Kd.R_base ho0) hb);have n1_:=a0_ (Kd.R_elder' (rr_ HO_11.out) (Kd.R_base ho0) hb);have n2_:=a0_ (Kd.R_elder' (rr_ HO_12.out) (Kd.R_base ho0) hb);have n3_:=a0_ (Kd.R_elder' (rr_ HO_13.out) (Kd.R_base ho0) hb);have n4_:=rb_ Z22 hb;have n5_:=rb_ HO35 hb;have n6_:=a0_ (Kd.R_elder' (rr_ HO39.out) (Kd.R_base ho0) hb);have n7_:=a0_ (Kd.R_lower (Kd.R_new' (Kd.R_new' (Kd.R_new' (Kd.R_new' (Kd.R_new' ho0 (Kd.R_lt (rr_ HO_8.out))) (Kd.R_lt (rr_ HO_11.out))) (Kd.R_lt (rr_ HO_12.out))) (Kd.R_lt (rr_ HO_13.out))) (Kd.R_lt (rr_ HO39.out))) (below_size hbw_));have n8_:=kb_ BK1 hb;have n9_:=kb_ BK21 hb;have n10_:=a0_ (below_step hbw_ hb);clear HO_8 HO_11;clear HO_12 HO_13;clear Z22 HO35;clear HO39 BK1;clear BK21 HB;have HO_8:=n0_;have HO_11:=n1_;have HO_12:=n2_;have HO_13:=n3_;have Z22:=n4_;have HO35:=n5_;have HO39:=n6_;have HO43:=n7_;have BK1:=n8_;have BK21:=n9_;have HB:=n10_;clear n0_ n1_ n2_ n3_ n4_ n5_ n6_ n7_ n8_ n9_ n10_;(try clear hb);(try clear ho0);obtain ⟨Ao81,co81,eo81⟩:=Kd.R_slice HO43.out;subst eo81) | ((with_reducible refine gate_callee (f:=14) rfl ?_);refine goesL_ (some 80) rfl rfl Try.func14 (by kernel_rfl) rfl #[.slice Ao49 t25.length co49,.slice Ao81 t41.length co81] rfl lm_ ?_;(with_reducible refine (laws_eqExitS.calls kj26 _ _ t25 _ _ t41 true _ ?side1 ?side2 ?side3 ?side4 A67.out).mono ?_);(case side1=>exact cc_ (Kd.R_reads' HO_12.out).2.2);(case side2=>exact (Kd.R_reads' HO_12.out).2.1);(case side3=>exact cc_ (Kd.R_reads' HO43.out).2.2);(case side4=>exact (Kd.R_reads' HO43.out).2.1);rintro e w82 ⟨rfl,hb⟩;refine ⟨_,rfl,?_⟩;replace HO_8:=rb_ HO_8 hb;replace HO_11:=rb_ HO_11 hb;replace HO_12:=rb_ HO_12 hb;replace HO_13:=rb_ HO_13 hb;replace Z22:=rb_ Z22 hb;replace HO35:=rb_ HO35 hb;replace HO39:=rb_ HO39 hb;replace HO43:=rb_ HO43 hb;replace BK1:=kb_ BK1 hb;replace BK21:=kb_ BK21 hb;replace HB:=a0_ (below_step hbw_ hb);(try clear hb);have hnb83:=NB21_1.out;have hnc83:=NB1_21.out;have hcz84_0 : w82.cell? ⟨gb21,0,none⟩ = some (.slice Ao42 t18.length co42):=(blk_cell BK21.out 0).trans rfl;have hfz84_0:=blk_frozen BK21.out 0) | ((with_reducible refine gate_callee (f:=16) rfl ?_);refine goesL_ (some 84) rfl rfl Try.func16 (by kernel_rfl) rfl #[.agg #[.slice Ao42 t18.length co42],.int .i64 1] rfl lm_ ?_;(with_reducible refine (laws_markTree.calls kj26 (fun k_=>some k_ = (.slice Ao42 t18.length co42 : Value).ownBlock) (.slice Ao42 t18.length co42) t18 1 t45 t46 w _ ?side1 ?side2 A69.out).mono ?_);(case side1=>exact hbw_);(case side2=>exact Kd.R_tight rfl Z22.out);rintro e w85 ⟨rfl,hy0,hb,hkp⟩;refine ⟨_,rfl,?_⟩;have n0_:=a0_ (Kd.R_mono (ok':=fun k_=>some k_ ≠ (.slice Ao48 t22.length co48 : Value).ownBlock ∧ some k_ ≠ (.slice Ao49 t25.length co49 : Value).ownBlock ∧ some k_ ≠ (v29 : Value).ownBlock ∧ some k_ ≠ (.slice Ao78 t37.length co78 : Value).ownBlock ∧ some k_ ≠ (.slice Ao81 t41.length co81 : Value).ownBlock) (Kd.R_keptB ((Kd.R_apart' HO_8.out (Kd.R_typed Z22.out) (by decide))) hkp (fun k_ hk_ hs_=>(hk_.2) hs_)) (fun k_ hk_=>⟨hk_.1.1.1.1.1,hk_.1.1.1.1.2.1,hk_.1.1.1.1.2.2,hk_.1.1.1.2,hk_.1.1.2⟩));have n1_:=a0_ (Kd.R_mono (ok':=fun k_=>some k_ ≠ (v15 : Value).ownBlock ∧ some k_ ≠ (.slice Ao49 t25.length co49 : Value).ownBlock ∧ some k_ ≠ (v29 : Value).ownBlock ∧ some k_ ≠ (.slice Ao78 t37.length co78 : Value).ownBlock ∧ some k_ ≠ (.slice Ao81 t41.length co81 : Value).ownBlock) (Kd.R_keptB ((Kd.R_apart' HO_11.out (Kd.R_typed Z22.out) (by decide))) hkp (fun k_ hk_ hs_=>(hk_.2) hs_)) (fun k_ hk_=>⟨hk_.1.1.1.1.1,hk_.1.1.1.1.2.1,hk_.1.1.1.1.2.2,hk_.1.1.1.2,hk_.1.1.2⟩));have n2_:=a0_ (Kd.R_mono (ok':=fun k_=>some k_ ≠ (v15 : Value).ownBlock ∧ some k_ ≠ (.slice Ao48 t22.length co48 : Value).ownBlock ∧ some k_ ≠ (v29 : Value).ownBlock ∧ some k_ ≠ (.slice Ao78 t37.length co78 : Value).ownBlock ∧ some k_ ≠ (.slice Ao81 t41.length co81 : Value).ownBlock) (Kd.R_keptB ((Kd.R_apart' HO_12.out (Kd.R_typed Z22.out) (by decide))) hkp (fun k_ hk_ hs_=>(hk_.2) hs_)) (fun k_ hk_=>⟨hk_.1.1.1.1.1,hk_.1.1.1.1.2.1,hk_.1.1.1.1.2.2,hk_.1.1.1.2,hk_.1.1.2⟩));have n3_:=a0_ (Kd.R_mono (ok':=fun k_=>some k_ ≠ (v15 : Value).ownBlock ∧ some k_ ≠ (.slice Ao48 t22.length co48 : Value).ownBlock ∧ some k_ ≠ (.slice Ao49 t25.length co49 : Value).ownBlock ∧ some k_ ≠ (.slice Ao78 t37.length co78 : Value).ownBlock ∧ some k_ ≠ (.slice Ao81 t41.length co81 : Value).ownBlock) (Kd.R_keptB ((Kd.R_apart' HO_13.out (Kd.R_typed Z22.out) (by decide))) hkp (fun k_ hk_ hs_=>(hk_.2) hs_)) (fun k_ hk_=>⟨hk_.1.1.1.1.1,hk_.1.1.1.1.2.1,hk_.1.1.1.1.2.2,hk_.1.1.1.2,hk_.1.1.2⟩));have n4_:=a0_ (Kd.R_reok rfl hy0 (fun k_ e_=>Z22.out.1 k_ e_));have n5_:=a0_ (blk_kept (bb_ BK1.out) hkp (fun hs_=>(fun e_=>(Kd.R_ne Z22.out BK1.out (by decide)) e_) hs_));have n6_:=a0_ (blk_kept (bb_ BK21.out) hkp (fun hs_=>(fun e_=>(Kd.R_ne Z22.out BK21.out (by decide)) e_) hs_));have n7_:=a0_ (Kd.R_mono (ok':=fun k_=>some k_ ≠ (.slice Ao42 t18.length co42 : Value).ownBlock) (Kd.R_keptB (HO35.out) hkp (fun k_ hk_ hs_=>(hk_.2) hs_)) (fun k_ hk_=>hk_.1.2));have n8_:=a0_ (Kd.R_mono (ok':=fun k_=>some k_ ≠ (v15 : Value).ownBlock ∧ some k_ ≠ (.slice Ao48 t22.length co48 : Value).ownBlock ∧ some k_ ≠ (.slice Ao49 t25.length co49 : Value).ownBlock ∧ some k_ ≠ (v29 : Value).ownBlock ∧ some k_ ≠ (.slice Ao81 t41.length co81 : Value).ownBlock) (Kd.R_keptB ((Kd.R_apart' HO39.out (Kd.R_typed Z22.out) (by decide))) hkp (fun k_ hk_ hs_=>(hk_.2) hs_)) (fun k_ hk_=>⟨hk_.1.1.1.1.1.1.2,hk_.1.1.1.1.1.2,hk_.1.1.1.1.2,hk_.1.1.1.2,hk_.1.1.2⟩));have n9_:=a0_ (Kd.R_mono (ok':=fun k_=>some k_ ≠ (v15 : Value).ownBlock ∧ some k_ ≠ (.slice Ao48 t22.length co48 : Value).ownBlock ∧ some k_ ≠ (.slice Ao49 t25.length co49 : Value).ownBlock ∧ some k_ ≠ (v29 : Value).ownBlock ∧ some k_ ≠ (.slice Ao78 t37.length co78 : Value).ownBlock) (Kd.R_keptB ((Kd.R_apart' HO43.out (Kd.R_typed Z22.out) (by decide))) hkp (fun k_ hk_ hs_=>(hk_.2) hs_)) (fun k_ hk_=>⟨hk_.1.1.1.1.1.1.2,hk_.1.1.1.1.1.2,hk_.1.1.1.1.2,hk_.1.1.1.2,hk_.1.1.2⟩));have n10_:=a0_ (hb);clear HO_8 HO_11;clear HO_12 HO_13;clear Z22 BK1;clear BK21 HO35;clear HO39 HO43 HB;have HO_8:=n0_;have HO_11:=n1_;have HO_12:=n2_;have HO_13:=n3_;have Z22:=n4_;have BK1:=n5_;have BK21:=n6_;have HO35:=n7_;have HO39:=n8_;have HO43:=n9_;have HB:=n10_;clear n0_ n1_ n2_ n3_ n4_ n5_ n6_ n7_ n8_ n9_ n10_;(try clear hb);(try clear hkp);(try clear hy0)) | ((with_reducible refine gate_callee (f:=17) rfl ?_);refine goesL_ (some 87) rfl rfl Try.func17 (by kernel_rfl) rfl #[.slice Ao48 t22.length co48,.int .i64 t45] rfl lm_ ?_;(with_reducible refine (laws_markExitS.calls kj26 (fun k_=>some k_ = (.slice Ao48 t22.length co48 : Value).ownBlock) (.slice Ao48 t22.length co48) t22 t45 t47 t48 w _ ?side1 ?side2 A70.out).mono ?_);(case side1=>exact hbw_);(case side2=>exact Kd.R_tight rfl HO_11.out);rintro e w86 ⟨rfl,hy0,hb,hkp⟩;refine ⟨_,rfl,?_⟩;have n0_:=a0_ (Kd.R_mono (ok':=fun k_=>some k_ ≠ (.slice Ao48 t22.length co48 : Value).ownBlock ∧ some k_ ≠ (.slice Ao49 t25.length co49 : Value).ownBlock ∧ some k_ ≠ (v29 : Value).ownBlock ∧ some k_ ≠ (.slice Ao78 t37.length co78 : Value).ownBlock ∧ some k_ ≠ (.slice Ao81 t41.length co81 : Value).ownBlock) (Kd.R_keptB (HO_8.out) hkp (fun k_ hk_ hs_=>(hk_.1) hs_)) (fun k_ hk_=>⟨hk_.1.1,hk_.1.2.1,hk_.1.2.2.1,hk_.1.2.2.2.1,hk_.1.2.2.2.2⟩));have n1_:=a0_ (Kd.R_reok rfl hy0 (fun k_ e_=>HO_11.out.1 k_ e_));have n2_:=a0_ (Kd.R_mono (ok':=fun k_=>some k_ ≠ (v15 : Value).ownBlock ∧ some k_ ≠ (.slice Ao48 t22.length co48 : Value).ownBlock ∧ some k_ ≠ (v29 : Value).ownBlock ∧ some k_ ≠ (.slice Ao78 t37.length co78 : Value).ownBlock ∧ some k_ ≠ (.slice Ao81 t41.length co81 : Value).ownBlock) (Kd.R_keptB (HO_12.out) hkp (fun k_ hk_ hs_=>(hk_.2.1) hs_)) (fun k_ hk_=>⟨hk_.1.1,hk_.1.2.1,hk_.1.2.2.1,hk_.1.2.2.2.1,hk_.1.2.2.2.2⟩));have n3_:=a0_ (Kd.R_mono (ok':=fun k_=>some k_ ≠ (v15 : Value).ownBlock ∧ some k_ ≠ (.slice Ao48 t22.length co48 : Value).ownBlock ∧ some k_ ≠ (.slice Ao49 t25.length co49 : Value).ownBlock ∧ some k_ ≠ (.slice Ao78 t37.length co78 : Value).ownBlock ∧ some k_ ≠ (.slice Ao81 t41.length co81 : Value).ownBlock) (Kd.R_keptB (HO_13.out) hkp (fun k_ hk_ hs_=>(hk_.2.1) hs_)) (fun k_ hk_=>⟨hk_.1.1,hk_.1.2.1,hk_.1.2.2.1,hk_.1.2.2.2.1,hk_.1.2.2.2.2⟩));have n4_:=a0_ (Kd.R_mono (ok':=fun k_=>some k_ ≠ (.slice Ao75 t33.length co75 : Value).ownBlock) (Kd.R_keptB ((Kd.R_apart' Z22.out (Kd.R_typed HO_11.out) (by decide))) hkp (fun k_ hk_ hs_=>(hk_.2) hs_)) (fun k_ hk_=>hk_.1.1.2));have n5_:=a0_ (blk_kept (bb_ BK1.out) hkp (fun hs_=>(fun e_=>(Kd.R_ne HO_11.out BK1.out (by decide)) e_) hs_));have n6_:=a0_ (blk_kept (bb_ BK21.out) hkp (fun hs_=>(fun e_=>(Kd.R_ne HO_11.out BK21.out (by decide)) e_) hs_));have n7_:=a0_ (Kd.R_mono (ok':=fun k_=>some k_ ≠ (.slice Ao42 t18.length co42 : Value).ownBlock) (Kd.R_keptB ((Kd.R_apart' HO35.out (Kd.R_typed HO_11.out) (by decide))) hkp (fun k_ hk_ hs_=>(hk_.2) hs_)) (fun k_ hk_=>hk_.1.1));have n8_:=a0_ (Kd.R_mono (ok':=fun k_=>some k_ ≠ (v15 : Value).ownBlock ∧ some k_ ≠ (.slice Ao48 t22.length co48 : Value).ownBlock ∧ some k_ ≠ (.slice Ao49 t25.length co49 : Value).ownBlock ∧ some k_ ≠ (v29 : Value).ownBlock ∧ some k_ ≠ (.slice Ao81 t41.length co81 : Value).ownBlock) (Kd.R_keptB (HO39.out) hkp (fun k_ hk_ hs_=>(hk_.2.1) hs_)) (fun k_ hk_=>⟨hk_.1.1,hk_.1.2.1,hk_.1.2.2.1,hk_.1.2.2.2.1,hk_.1.2.2.2.2⟩));have n9_:=a0_ (Kd.R_mono (ok':=fun k_=>some k_ ≠ (v15 : Value).ownBlock ∧ some k_ ≠ (.slice Ao48 t22.length co48 : Value).ownBlock ∧ some k_ ≠ (.slice Ao49 t25.length co49 : Value).ownBlock ∧ some k_ ≠ (v29 : Value).ownBlock ∧ some k_ ≠ (.slice Ao78 t37.length co78 : Value).ownBlock) (Kd.R_keptB (HO43.out) hkp (fun k_ hk_ hs_=>(hk_.2.1) hs_)) (fun k_ hk_=>⟨hk_.1.1,hk_.1.2.1,hk_.1.2.2.1,hk_.1.2.2.2.1,hk_.1.2.2.2.2⟩));have n10_:=a0_ (hb);clear HO_8 HO_11;clear HO_12 HO_13;clear Z22 BK1;clear BK21 HO35;clear HO39 HO43 HB;have HO_8:=n0_;have HO_11:=n1_;have HO_12:=n2_;have HO_13:=n3_;have Z22:=n4_;have BK1:=n5_;have BK21:=n6_;have HO35:=n7_;have HO39:=n8_;have HO43:=n9_;have HB:=n10_;clear n0_ n1_ n2_ n3_ n4_ n5_ n6_ n7_ n8_ n9_ n10_;(try clear hb);(try clear hkp);(try clear hy0)) | ((with_reducible refine gate_callee (f:=17) rfl ?_);refine goesL_ (some 90) rfl rfl Try.func17 (by kernel_rfl) rfl #[.slice Ao49 t25.length co49,.int .i64 t47] rfl lm_ ?_;(with_reducible refine (laws_markExitS.calls kj26 (fun k_=>some k_ = (.slice Ao49 t25.length co49 : Value).ownBlock) (.slice Ao49 t25.length co49) t25 t47 t49 t50 w _ ?side1 ?side2 A71.out).mono ?_);(case side1=>exact hbw_);(case side2=>exact Kd.R_tight rfl HO_12.out);rintro e w87 ⟨rfl,hy0,hb,hkp⟩;refine ⟨_,rfl,?_⟩;have n0_:=a0_ (Kd.R_mono (ok':=fun k_=>some k_ ≠ (.slice Ao48 t22.length co48 : Value).ownBlock ∧ some k_ ≠ (.slice Ao49 t25.length co49 : Value).ownBlock ∧ some k_ ≠ (v29 : Value).ownBlock ∧ some k_ ≠ (.slice Ao78 t37.length co78 : Value).ownBlock ∧ some k_ ≠ (.slice Ao81 t41.length co81 : Value).ownBlock) (Kd.R_keptB (HO_8.out) hkp (fun k_ hk_ hs_=>(hk_.2.1) hs_)) (fun k_ hk_=>⟨hk_.1.1,hk_.1.2.1,hk_.1.2.2.1,hk_.1.2.2.2.1,hk_.1.2.2.2.2⟩));have n1_:=a0_ (Kd.R_mono (ok':=fun k_=>some k_ ≠ (v15 : Value).ownBlock ∧ some k_ ≠ (.slice Ao49 t25.length co49 : Value).ownBlock ∧ some k_ ≠ (v29 : Value).ownBlock ∧ some k_ ≠ (.slice Ao78 t37.length co78 : Value).ownBlock ∧ some k_ ≠ (.slice Ao81 t41.length co81 : Value).ownBlock) (Kd.R_keptB (HO_11.out) hkp (fun k_ hk_ hs_=>(hk_.2.1) hs_)) (fun k_ hk_=>⟨hk_.1.1,hk_.1.2.1,hk_.1.2.2.1,hk_.1.2.2.2.1,hk_.1.2.2.2.2⟩));have n2_:=a0_ (Kd.R_reok rfl hy0 (fun k_ e_=>HO_12.out.1 k_ e_));have n3_:=a0_ (Kd.R_mono (ok':=fun k_=>some k_ ≠ (v15 : Value).ownBlock ∧ some k_ ≠ (.slice Ao48 t22.length co48 : Value).ownBlock ∧ some k_ ≠ (.slice Ao49 t25.length co49 : Value).ownBlock ∧ some k_ ≠ (.slice Ao78 t37.length co78 : Value).ownBlock ∧ some k_ ≠ (.slice Ao81 t41.length co81 : Value).ownBlock) (Kd.R_keptB (HO_13.out) hkp (fun k_ hk_ hs_=>(hk_.2.2.1) hs_)) (fun k_ hk_=>⟨hk_.1.1,hk_.1.2.1,hk_.1.2.2.1,hk_.1.2.2.2.1,hk_.1.2.2.2.2⟩));have n4_:=a0_ (Kd.R_mono (ok':=fun k_=>some k_ ≠ (.slice Ao75 t33.length co75 : Value).ownBlock) (Kd.R_keptB ((Kd.R_apart' Z22.out (Kd.R_typed HO_12.out) (by decide))) hkp (fun k_ hk_ hs_=>(hk_.2) hs_)) (fun k_ hk_=>hk_.1.1));have n5_:=a0_ (blk_kept (bb_ BK1.out) hkp (fun hs_=>(fun e_=>(Kd.R_ne HO_12.out BK1.out (by decide)) e_) hs_));have n6_:=a0_ (blk_kept (bb_ BK21.out) hkp (fun hs_=>(fun e_=>(Kd.R_ne HO_12.out BK21.out (by decide)) e_) hs_));have n7_:=a0_ (Kd.R_mono (ok':=fun k_=>some k_ ≠ (.slice Ao42 t18.length co42 : Value).ownBlock) (Kd.R_keptB ((Kd.R_apart' HO35.out (Kd.R_typed HO_12.out) (by decide))) hkp (fun k_ hk_ hs_=>(hk_.2) hs_)) (fun k_ hk_=>hk_.1.1));have n8_:=a0_ (Kd.R_mono (ok':=fun k_=>some k_ ≠ (v15 : Value).ownBlock ∧ some k_ ≠ (.slice Ao48 t22.length co48 : Value).ownBlock ∧ some k_ ≠ (.slice Ao49 t25.length co49 : Value).ownBlock ∧ some k_ ≠ (v29 : Value).ownBlock ∧ some k_ ≠ (.slice Ao81 t41.length co81 : Value).ownBlock) (Kd.R_keptB (HO39.out) hkp (fun k_ hk_ hs_=>(hk_.2.2.1) hs_)) (fun k_ hk_=>⟨hk_.1.1,hk_.1.2.1,hk_.1.2.2.1,hk_.1.2.2.2.1,hk_.1.2.2.2.2⟩));have n9_:=a0_ (Kd.R_mono (ok':=fun k_=>some k_ ≠ (v15 : Value).ownBlock ∧ some k_ ≠ (.slice Ao48 t22.length co48 : Value).ownBlock ∧ some k_ ≠ (.slice Ao49 t25.length co49 : Value).ownBlock ∧ some k_ ≠ (v29 : Value).ownBlock ∧ some k_ ≠ (.slice Ao78 t37.length co78 : Value).ownBlock) (Kd.R_keptB (HO43.out) hkp (fun k_ hk_ hs_=>(hk_.2.2.1) hs_)) (fun k_ hk_=>⟨hk_.1.1,hk_.1.2.1,hk_.1.2.2.1,hk_.1.2.2.2.1,hk_.1.2.2.2.2⟩));have n10_:=a0_ (hb);clear HO_8 HO_11;clear HO_12 HO_13;clear Z22 BK1;clear BK21 HO35;clear HO39 HO43 HB;have HO_8:=n0_;have HO_11:=n1_;have HO_12:=n2_;have HO_13:=n3_;have Z22:=n4_;have BK1:=n5_;have BK21:=n6_;have HO35:=n7_;have HO39:=n8_;have HO43:=n9_;have HB:=n10_;clear n0_ n1_ n2_ n3_ n4_ n5_ n6_ n7_ n8_ n9_ n10_;(try clear hb);(try clear hkp);(try clear hy0)))
          (try simp only [Act.put,s1_,s2_,s3_])
          go_cut [103] (fun v103 wc=>∃ (kq : Nat) (x103_71 : Bool),v103 = .bool x103_71 ∧ Aside0 (laws_FnExactJoinExits.j1 kq l1 l2 t14 t17 t28 x103_71 l0_0 = some r) ∧ Aside0 (kq ≤ kj26) ∧ Aside0 (Kd.R k38 38 wc w.heap.size (fun k_=>some k_ ≠ (v29 : Value).ownBlock) v15 t14) ∧ Aside0 (Kd.R k38 38 wc w.heap.size (fun k_=>some k_ ≠ (v15 : Value).ownBlock) v29 t28) ∧ Aside0 (Kd.R k76 76 wc w.heap.size (fun _=>True) (.slice Ao42 t18.length co42) t46) ∧ Aside0 (wc.heap[gb1]? = some (.cells #[(.slice A0_0 l0_0.length c0_0)] 24 (0,0))) ∧ Aside0 (wc.heap[gb21]? = some (.cells #[(.slice Ao42 t18.length co42)] 35 (0,0))) ∧ Aside0 (Below w.heap.size w wc))
          case first =>
           have H:=HC72.out
           clear HC72
           by_cases c88 : t49 < 0
           ·rw [if_pos c88] at H
            have c88b0 : decide (t49 < 0) = true:=decide_eq_true c88
            clear c88
            (first | rw [c88b0] | (simp only [i64_w,i32_w];rw [c88b0]) | skip)
            have H':=a0_ H
            clear H
            go_wp2
            go_meet
            case rel=>exact ⟨_,(true),(by first | rfl | (simp;done) | (simp [*];done)),H',⟨by have:=HJ26.out;first | omega | exact Nat.le_refl _⟩,⟨by (with_reducible repeat (first | apply Kd.R_alloc | apply Kd.R_drewN | apply Kd.R_drew));exact Kd.R_mono HO_8.out (fun _ hk=>hk.2.2.1)⟩,⟨by (with_reducible repeat (first | apply Kd.R_alloc | apply Kd.R_drewN | apply Kd.R_drew));exact Kd.R_mono HO_13.out (fun _ hk=>hk.1)⟩,⟨by (with_reducible repeat (first | apply Kd.R_alloc | apply Kd.R_drewN | apply Kd.R_drew));exact Kd.R_mono Z22.out (fun _ hk=>trivial)⟩,⟨by (with_reducible repeat (first | refine blk_drewN ?_ _ | refine blk_drew ?_ | refine blk_alloc ?_ _));exact BK1.out⟩,⟨by (with_reducible repeat (first | refine blk_drewN ?_ _ | refine blk_drew ?_ | refine blk_alloc ?_ _));exact BK21.out⟩,⟨hbw_⟩⟩
           ·rw [if_neg c88] at H
            have c88b0 : decide (t49 < 0) = false:=decide_eq_false c88
            clear c88
            (first | rw [c88b0] | (simp only [i64_w,i32_w];rw [c88b0]) | skip)
            replace H:=Option.bind_eq_some_iff.mp H
            obtain ⟨t51,A890,H⟩:=H
            try dsimp only at H
            have A89:=a0_ A890
            clear A890
            by_cases c90 : t51 = true
            ·subst c90
             have H1 : (laws_FnExactJoinExits.j1 kj26 l1 l2 t14 t17 t28 (t31 != t17) l0_0) = some r:=by rw [if_pos rfl] at H;exact H
             clear H
             have H:=H1
             clear H1
             have H':=a0_ H
             clear H
             obtain ⟨Ao91,co91,eo91⟩:=Kd.R_slice HO_13.out
             subst eo91
             obtain ⟨Ao92,co92,eo92⟩:=Kd.R_slice HO_8.out
             subst eo92
             go_wp2_with (first | (go_at_call 14;(with_reducible refine (laws_eqExitS.calls kj26 _ _ t28 _ _ t14 true _ ?side1 ?side2 ?side3 ?side4 A89.out).mono ?_);(case side1=>exact cc_ (Kd.R_reads' HO_13.out).2.2);(case side2=>exact (Kd.R_reads' HO_13.out).2.1);(case side3=>exact cc_ (Kd.R_reads' HO_8.out).2.2);(case side4=>exact (Kd.R_reads' HO_8.out).2.1);rintro e w93 ⟨rfl,hb⟩;replace HO_8:=rb_ HO_8 hb;replace HO_11:=rb_ HO_11 hb;replace HO_12:=rb_ HO_12 hb;replace HO_13:=rb_ HO_13 hb;replace Z22:=rb_ Z22 hb;replace HO35:=rb_ HO35 hb;replace HO39:=rb_ HO39 hb;replace HO43:=rb_ HO43 hb;replace BK1:=kb_ BK1 hb;replace BK21:=kb_ BK21 hb;replace HB:=a0_ (below_step hbw_ hb);(try clear hb);(try clear hb2);(try clear hk);(try clear hi)))
             go_meet
             case rel=>exact ⟨_,((t31 != t17)),(by first | rfl | (simp;done) | (simp [*];done)),H',⟨by have:=HJ26.out;first | omega | exact Nat.le_refl _⟩,⟨by (with_reducible repeat (first | apply Kd.R_alloc | apply Kd.R_drewN | apply Kd.R_drew));exact Kd.R_mono HO_8.out (fun _ hk=>hk.2.2.1)⟩,⟨by (with_reducible repeat (first | apply Kd.R_alloc | apply Kd.R_drewN | apply Kd.R_drew));exact Kd.R_mono HO_13.out (fun _ hk=>hk.1)⟩,⟨by (with_reducible repeat (first | apply Kd.R_alloc | apply Kd.R_drewN | apply Kd.R_drew));exact Kd.R_mono Z22.out (fun _ hk=>trivial)⟩,⟨by (with_reducible repeat (first | refine blk_drewN ?_ _ | refine blk_drew ?_ | refine blk_alloc ?_ _));exact BK1.out⟩,⟨by (with_reducible repeat (first | refine blk_drewN ?_ _ | refine blk_drew ?_ | refine blk_alloc ?_ _));exact BK21.out⟩,⟨hbw_⟩⟩
            ·replace c90:=Bool.eq_false_iff.mpr c90
             subst c90
             have H1 : (laws_FnExactJoinExits.j1 kj26 l1 l2 t14 t17 t28 true l0_0) = some r:=by rw [if_neg (show ¬ (false = true) by decide)] at H;exact H
             clear H
             have H:=H1
             clear H1
             have H':=a0_ H
             clear H
             obtain ⟨Ao94,co94,eo94⟩:=Kd.R_slice HO_13.out
             subst eo94
             obtain ⟨Ao95,co95,eo95⟩:=Kd.R_slice HO_8.out
             subst eo95
             go_wp2_with (first | (go_at_call 14;(with_reducible refine (laws_eqExitS.calls kj26 _ _ t28 _ _ t14 false _ ?side1 ?side2 ?side3 ?side4 A89.out).mono ?_);(case side1=>exact cc_ (Kd.R_reads' HO_13.out).2.2);(case side2=>exact (Kd.R_reads' HO_13.out).2.1);(case side3=>exact cc_ (Kd.R_reads' HO_8.out).2.2);(case side4=>exact (Kd.R_reads' HO_8.out).2.1);rintro e w96 ⟨rfl,hb⟩;replace HO_8:=rb_ HO_8 hb;replace HO_11:=rb_ HO_11 hb;replace HO_12:=rb_ HO_12 hb;replace HO_13:=rb_ HO_13 hb;replace Z22:=rb_ Z22 hb;replace HO35:=rb_ HO35 hb;replace HO39:=rb_ HO39 hb;replace HO43:=rb_ HO43 hb;replace BK1:=kb_ BK1 hb;replace BK21:=kb_ BK21 hb;replace HB:=a0_ (below_step hbw_ hb);(try clear hb);(try clear hb2);(try clear hk);(try clear hi)))
             go_meet
             case rel=>exact ⟨_,(true),(by first | rfl | (simp;done) | (simp [*];done)),H',⟨by have:=HJ26.out;first | omega | exact Nat.le_refl _⟩,⟨by (with_reducible repeat (first | apply Kd.R_alloc | apply Kd.R_drewN | apply Kd.R_drew));exact Kd.R_mono HO_8.out (fun _ hk=>hk.2.2.1)⟩,⟨by (with_reducible repeat (first | apply Kd.R_alloc | apply Kd.R_drewN | apply Kd.R_drew));exact Kd.R_mono HO_13.out (fun _ hk=>hk.1)⟩,⟨by (with_reducible repeat (first | apply Kd.R_alloc | apply Kd.R_drewN | apply Kd.R_drew));exact Kd.R_mono Z22.out (fun _ hk=>trivial)⟩,⟨by (with_reducible repeat (first | refine blk_drewN ?_ _ | refine blk_drew ?_ | refine blk_alloc ?_ _));exact BK1.out⟩,⟨by (with_reducible repeat (first | refine blk_drewN ?_ _ | refine blk_drew ?_ | refine blk_alloc ?_ _));exact BK21.out⟩,⟨hbw_⟩⟩
          case rest =>
           clear HC72
           try clear c1
           try clear c2
           try clear p2
           try clear c4
           try clear c5
           try clear c5b0
           try clear c6
           try clear c7
           try clear c8
           try clear c9
           try clear c10
           try clear c10b0
           try clear c11
           try clear c14
           try clear c15
           try clear c15b0
           try clear c16
           try clear c17
           try clear c22
           try clear c23
           try clear c43
           try clear c52
           try clear c59
           try clear c62
           try clear c65
           try clear c68
           try clear c83
           try clear c88
           try clear c88b0
           try clear c90
           try clear hcz12_0
           try clear hcz17_0
           try clear hcz29_0
           try clear hcz31_0
           try clear hcz39_0
           try clear hcz44_0
           try clear hcz47_0
           try clear hcz7_0
           try clear hcz84_0
           try clear hfz12_0
           try clear hfz17_0
           try clear hfz29_0
           try clear hfz31_0
           try clear hfz39_0
           try clear hfz44_0
           try clear hfz47_0
           try clear hfz7_0
           try clear hfz84_0
           try clear p2
           obtain ⟨kq,x103_71,rfl,HA,HJ71,HO_8,HO_13,Z22,BK1,BK21,HB⟩:=hcut
           have hl22000_71:=(Kd.R_reads' Z22.out).1
           rw [hl22000_71] at Z22
           (try simp only [hl22000_71])
           (try simp only [hl22000_71] at BK1)
           (try simp only [hl22000_71] at BK21)
           (try simp only [hl22000_71] at HO_8)
           (try simp only [hl22000_71] at HO_13)
           cases kq with
           | zero=>exact absurd HA.out (by simp [laws_FnExactJoinExits.j1])
           | succ kj71 =>
            have H:=HA.out
            clear HA
            simp only [laws_FnExactJoinExits.j1] at H
            by_cases c97 : x103_71 = true
            ·subst c97
             have H1 : (some false) = some r:=by rw [if_pos rfl] at H;exact H
             clear H
             have H:=H1
             clear H1
             obtain rfl:=Option.some.inj H
             go_wp2
             go_ret
             exact ⟨by first | rfl | (simp [errW_none,errW_some] <;> rfl) | (simp [*,errW_none,errW_some] <;> rfl),hbw_⟩
            ·replace c97:=Bool.eq_false_iff.mpr c97
             subst c97
             have H1 : ((laws_markExitS.f kj71 t28 1).bind fun bt52=>((laws_heldExitS.f kj71 bt52.2 1).bind fun t54=>(if t54 < 0 then (some false) else (if t54 = bt52.1 then ((laws_toTree.f kj71 l0_0).bind fun t55=>((laws_toExitS.f kj71 l1).bind fun t58=>((laws_toExitS.f kj71 l2).bind fun t61=>((impl_JoinExits.f t55 t58 t61).bind fun bt64=>((laws_eqExitS.f kj71 bt64.1 t14).bind fun t68=>(if t68 = true then (laws_FnExactJoinExits.j2 kj71 bt52.2 bt52.1 (bt64.2 != t17)) else (laws_FnExactJoinExits.j2 kj71 bt52.2 bt52.1 true))))))) else (some false))))) = some r:=by rw [if_neg (show ¬ (false = true) by decide)] at H;exact H
             clear H
             have H:=H1
             clear H1
             replace H:=Option.bind_eq_some_iff.mp H
             obtain ⟨⟨t52,t53⟩,A980,H⟩:=H
             try dsimp only at H
             have A98:=a0_ A980
             clear A980
             replace H:=Option.bind_eq_some_iff.mp H
             obtain ⟨t54,A990,H⟩:=H
             try dsimp only at H
             have A99:=a0_ A990
             clear A990
             by_cases c100 : t54 < 0
             ·rw [if_pos c100] at H
              have c100b0 : decide (t54 < 0) = true:=decide_eq_true c100
              clear c100
              obtain rfl:=Option.some.inj H
              obtain ⟨Ao101,co101,eo101⟩:=Kd.R_slice HO_13.out
              subst eo101
              go_wp2_with (first | ((with_reducible refine gate_callee (f:=17) rfl ?_);refine goesL_ (some 106) rfl rfl Try.func17 (by kernel_rfl) rfl #[.slice Ao101 t28.length co101,.int .i64 1] rfl lm_ ?_;(with_reducible refine (laws_markExitS.calls kj71 (fun k_=>some k_ = (.slice Ao101 t28.length co101 : Value).ownBlock) (.slice Ao101 t28.length co101) t28 1 t52 t53 w _ ?side1 ?side2 A98.out).mono ?_);(case side1=>exact hbw_);(case side2=>exact Kd.R_tight rfl HO_13.out);rintro e w102 ⟨rfl,hy0,hb,hkp⟩;refine ⟨_,rfl,?_⟩;have n0_:=a0_ (Kd.R_mono (ok':=fun k_=>some k_ ≠ (.slice Ao101 t28.length co101 : Value).ownBlock) (Kd.R_keptB (HO_8.out) hkp (fun k_ hk_ hs_=>(hk_) hs_)) (fun k_ hk_=>hk_.1));have n1_:=a0_ (Kd.R_reok rfl hy0 (fun k_ e_=>HO_13.out.1 k_ e_));have n2_:=a0_ (Kd.R_mono (ok':=fun k_=>True) (Kd.R_keptB ((Kd.R_apart' Z22.out (Kd.R_typed HO_13.out) (by decide))) hkp (fun k_ hk_ hs_=>(hk_.2) hs_)) (fun k_ hk_=>trivial));have n3_:=a0_ (blk_kept (bb_ BK1.out) hkp (fun hs_=>(fun e_=>(Kd.R_ne HO_13.out BK1.out (by decide)) e_) hs_));have n4_:=a0_ (blk_kept (bb_ BK21.out) hkp (fun hs_=>(fun e_=>(Kd.R_ne HO_13.out BK21.out (by decide)) e_) hs_));have n5_:=a0_ (hb);clear HO_8 HO_13;clear Z22 BK1;clear BK21 HB;have HO_8:=n0_;have HO_13:=n1_;have Z22:=n2_;have BK1:=n3_;have BK21:=n4_;have HB:=n5_;clear n0_ n1_ n2_ n3_ n4_ n5_;(try clear hb);(try clear hkp);(try clear hy0)) | ((with_reducible refine gate_callee (f:=18) rfl ?_);refine goesL_ (some 109) rfl rfl Try.func18 (by kernel_rfl) rfl #[.slice Ao101 t53.length co101,.int .i64 1] rfl (by (try simp only [List.map_toArray,List.map_cons,List.map_nil]);first | done | (rw [show t53.length = t28.length from (Kd.R_reads' HO_13.out).1.symm] <;> rfl) | rfl | (simp only [List.length_drop,List.length_take];rfl)) ?_;(with_reducible refine (laws_heldExitS.calls kj71 _ _ t53 1 t54 _ ?side1 ?side2 A99.out).mono ?_);(case side1=>exact cc_ (Kd.R_reads' HO_13.out).2.2);(case side2=>rw [show t53.length = t28.length from (Kd.R_reads' HO_13.out).1.symm];exact (Kd.R_reads' HO_13.out).2.1);rintro e w' ⟨rfl,⟨nd,rfl⟩⟩;refine ⟨_,rfl,?_⟩))
              go_ret
              exact ⟨by first | rfl | (simp [errW_none,errW_some] <;> rfl) | (simp [*,errW_none,errW_some] <;> rfl),hbw_⟩
             ·rw [if_neg c100] at H
              have c100b0 : decide (t54 < 0) = false:=decide_eq_false c100
              clear c100
              by_cases c103 : t54 = t52
              ·rw [if_pos c103] at H
               have c103b0 : (t54 == t52) = true:=beq_iff_eq.mpr c103
               have c103b1 : (t54 != t52) = false:=bne_eq_false_iff_eq.mpr c103
               clear c103
               replace H:=Option.bind_eq_some_iff.mp H
               obtain ⟨t55,A1040,H⟩:=H
               try dsimp only at H
               have A104:=a0_ A1040
               clear A1040
               replace H:=Option.bind_eq_some_iff.mp H
               obtain ⟨t58,A1050,H⟩:=H
               try dsimp only at H
               have A105:=a0_ A1050
               clear A1050
               replace H:=Option.bind_eq_some_iff.mp H
               obtain ⟨t61,A1060,H⟩:=H
               try dsimp only at H
               have A106:=a0_ A1060
               clear A1060
               replace H:=Option.bind_eq_some_iff.mp H
               obtain ⟨⟨t64,t67⟩,A1070,H⟩:=H
               try dsimp only at H
               have A107:=a0_ A1070
               clear A1070
               have HC108:=a0_ H
               clear H
               obtain ⟨Ao109,co109,eo109⟩:=Kd.R_slice HO_13.out
               subst eo109
               go_upto_region 39 with (first | ((with_reducible refine gate_callee (f:=17) rfl ?_);refine goesL_ (some 106) rfl rfl Try.func17 (by kernel_rfl) rfl #[.slice Ao109 t28.length co109,.int .i64 1] rfl lm_ ?_;(with_reducible refine (laws_markExitS.calls kj71 (fun k_=>some k_ = (.slice Ao109 t28.length co109 : Value).ownBlock) (.slice Ao109 t28.length co109) t28 1 t52 t53 w _ ?side1 ?side2 A98.out).mono ?_);(case side1=>exact hbw_);(case side2=>exact Kd.R_tight rfl HO_13.out);rintro e w110 ⟨rfl,hy0,hb,hkp⟩;refine ⟨_,rfl,?_⟩;have n0_:=a0_ (Kd.R_mono (ok':=fun k_=>some k_ ≠ (.slice Ao109 t28.length co109 : Value).ownBlock) (Kd.R_keptB (HO_8.out) hkp (fun k_ hk_ hs_=>(hk_) hs_)) (fun k_ hk_=>hk_.1));have n1_:=a0_ (Kd.R_reok rfl hy0 (fun k_ e_=>HO_13.out.1 k_ e_));have n2_:=a0_ (Kd.R_mono (ok':=fun k_=>True) (Kd.R_keptB ((Kd.R_apart' Z22.out (Kd.R_typed HO_13.out) (by decide))) hkp (fun k_ hk_ hs_=>(hk_.2) hs_)) (fun k_ hk_=>trivial));have n3_:=a0_ (blk_kept (bb_ BK1.out) hkp (fun hs_=>(fun e_=>(Kd.R_ne HO_13.out BK1.out (by decide)) e_) hs_));have n4_:=a0_ (blk_kept (bb_ BK21.out) hkp (fun hs_=>(fun e_=>(Kd.R_ne HO_13.out BK21.out (by decide)) e_) hs_));have n5_:=a0_ (hb);clear HO_8 HO_13;clear Z22 BK1;clear BK21 HB;have HO_8:=n0_;have HO_13:=n1_;have Z22:=n2_;have BK1:=n3_;have BK21:=n4_;have HB:=n5_;clear n0_ n1_ n2_ n3_ n4_ n5_;(try clear hb);(try clear hkp);(try clear hy0)) | ((with_reducible refine gate_callee (f:=18) rfl ?_);refine goesL_ (some 109) rfl rfl Try.func18 (by kernel_rfl) rfl #[.slice Ao109 t53.length co109,.int .i64 1] rfl (by (try simp only [List.map_toArray,List.map_cons,List.map_nil]);first | done | (rw [show t53.length = t28.length from (Kd.R_reads' HO_13.out).1.symm] <;> rfl) | rfl | (simp only [List.length_drop,List.length_take];rfl)) ?_;(with_reducible refine (laws_heldExitS.calls kj71 _ _ t53 1 t54 _ ?side1 ?side2 A99.out).mono ?_);(case side1=>exact cc_ (Kd.R_reads' HO_13.out).2.2);(case side2=>rw [show t53.length = t28.length from (Kd.R_reads' HO_13.out).1.symm];exact (Kd.R_reads' HO_13.out).2.1);rintro e w' ⟨rfl,⟨nd,rfl⟩⟩;refine ⟨_,rfl,?_⟩;have hnb111:=NB1_21.out;have hnc111:=NB21_1.out;have hcz112_0 : w110.cell? ⟨gb1,0,none⟩ = some (.slice A0_0 l0_0.length c0_0):=(blk_cell BK1.out 0).trans rfl;have hfz112_0:=blk_frozen BK1.out 0) | ((with_reducible refine gate_callee (f:=10) rfl ?_);refine goesL_ (some 117) rfl rfl Try.func10 (by kernel_rfl) rfl #[.agg #[.slice A0_0 l0_0.length c0_0]] rfl lm_ ?_;(with_reducible refine (laws_toTree.calls kj71 _ _ l0_0 t55 _ ?side1 ?side2 A104.out).mono ?_);(case side1=>repeat (first | exact (Kd.C_below HR0_0.out hbw_) | (with_reducible refine Kd.C_alloc ?_ _) | (with_reducible refine Kd.C_drewN ?_ _) | (with_reducible refine Kd.C_drew ?_)));(case side2=>exact HC0_0.out);rintro e w113 ⟨v56,rfl,ho0,hb⟩;refine ⟨_,rfl,?_⟩;have n0_:=rb_ HO_8 hb;have n1_:=rb_ HO_13 hb;have n2_:=a0_ (Kd.R_elder' (rr_ Z22.out) (Kd.R_base ho0) hb);have n3_:=a0_ (Kd.R_lower (Kd.R_new' ho0 (Kd.R_lt (rr_ Z22.out))) (below_size hbw_));have n4_:=kb_ BK1 hb;have n5_:=kb_ BK21 hb;have n6_:=a0_ (below_step hbw_ hb);clear HO_8 HO_13;clear Z22 BK1;clear BK21 HB;have HO_8:=n0_;have HO_13:=n1_;have Z22:=n2_;have HO57:=n3_;have BK1:=n4_;have BK21:=n5_;have HB:=n6_;clear n0_ n1_ n2_ n3_ n4_ n5_ n6_;(try clear hb);(try clear ho0)) | ((with_reducible refine gate_callee (f:=11) rfl ?_);refine goesL_ (some 119) rfl rfl Try.func11 (by kernel_rfl) rfl #[.slice A1 l1.length c1] rfl lm_ ?_;(with_reducible refine (laws_toExitS.calls kj71 _ _ l1 t58 _ ?side1 ?side2 A105.out).mono ?_);(case side1=>exact cc_ (Kd.C_below HR1.out HB.out));(case side2=>exact HC1.out);rintro e w114 ⟨v59,rfl,ho0,hb⟩;refine ⟨_,rfl,?_⟩;have n0_:=a0_ (Kd.R_elder' (rr_ HO_8.out) (Kd.R_base ho0) hb);have n1_:=a0_ (Kd.R_elder' (rr_ HO_13.out) (Kd.R_base ho0) hb);have n2_:=rb_ Z22 hb;have n3_:=rb_ HO57 hb;have n4_:=a0_ (Kd.R_lower (Kd.R_new' (Kd.R_new' ho0 (Kd.R_lt (rr_ HO_8.out))) (Kd.R_lt (rr_ HO_13.out))) (below_size hbw_));have n5_:=kb_ BK1 hb;have n6_:=kb_ BK21 hb;have n7_:=a0_ (below_step hbw_ hb);clear HO_8 HO_13;clear Z22 HO57;clear BK1 BK21 HB;have HO_8:=n0_;have HO_13:=n1_;have Z22:=n2_;have HO57:=n3_;have HO60:=n4_;have BK1:=n5_;have BK21:=n6_;have HB:=n7_;clear n0_ n1_ n2_ n3_ n4_ n5_ n6_ n7_;(try clear hb);(try clear ho0)) | ((with_reducible refine gate_callee (f:=11) rfl ?_);refine goesL_ (some 121) rfl rfl Try.func11 (by kernel_rfl) rfl #[.slice A2 l2.length c2] rfl lm_ ?_;(with_reducible refine (laws_toExitS.calls kj71 _ _ l2 t61 _ ?side1 ?side2 A106.out).mono ?_);(case side1=>exact cc_ (Kd.C_below HR2.out HB.out));(case side2=>exact HC2.out);rintro e w115 ⟨v62,rfl,ho0,hb⟩;refine ⟨_,rfl,?_⟩;have n0_:=a0_ (Kd.R_elder' (rr_ HO_8.out) (Kd.R_base ho0) hb);have n1_:=a0_ (Kd.R_elder' (rr_ HO_13.out) (Kd.R_base ho0) hb);have n2_:=rb_ Z22 hb;have n3_:=rb_ HO57 hb;have n4_:=a0_ (Kd.R_elder' (rr_ HO60.out) (Kd.R_base ho0) hb);have n5_:=a0_ (Kd.R_lower (Kd.R_new' (Kd.R_new' (Kd.R_new' ho0 (Kd.R_lt (rr_ HO_8.out))) (Kd.R_lt (rr_ HO_13.out))) (Kd.R_lt (rr_ HO60.out))) (below_size hbw_));have n6_:=kb_ BK1 hb;have n7_:=kb_ BK21 hb;have n8_:=a0_ (below_step hbw_ hb);clear HO_8 HO_13;clear Z22 HO57;clear HO60 BK1;clear BK21 HB;have HO_8:=n0_;have HO_13:=n1_;have Z22:=n2_;have HO57:=n3_;have HO60:=n4_;have HO63:=n5_;have BK1:=n6_;have BK21:=n7_;have HB:=n8_;clear n0_ n1_ n2_ n3_ n4_ n5_ n6_ n7_ n8_;(try clear hb);(try clear ho0);obtain ⟨Ao116,co116,eo116⟩:=Kd.R_slice HO57.out;subst eo116;obtain ⟨Ao117,co117,eo117⟩:=Kd.R_slice HO60.out;subst eo117;obtain ⟨Ao118,co118,eo118⟩:=Kd.R_slice HO63.out;subst eo118) | ((with_reducible refine gate_callee (f:=23) rfl ?_);refine goesL_ (some 122) rfl rfl Try.func23 (by kernel_rfl) rfl #[.agg #[.slice Ao116 t55.length co116],.slice Ao117 t58.length co117,.slice Ao118 t61.length co118] rfl lm_ ?_;(with_reducible refine (impl_JoinExits.calls _ _ t55 _ _ t58 _ _ t61 t64 t67 _ ?side1 ?side2 ?side3 ?side4 ?side5 ?side6 A107.out).mono ?_);(case side1=>exact cc_ (Kd.R_reads' HO57.out).2.2);(case side2=>exact (Kd.R_reads' HO57.out).2.1);(case side3=>exact cc_ (Kd.R_reads' HO60.out).2.2);(case side4=>exact (Kd.R_reads' HO60.out).2.1);(case side5=>exact cc_ (Kd.R_reads' HO63.out).2.2);(case side6=>exact (Kd.R_reads' HO63.out).2.1);rintro e w119 ⟨v65,rfl,ho0,hb⟩;refine ⟨_,rfl,?_⟩;have n0_:=a0_ (Kd.R_elder' (rr_ HO_8.out) (Kd.R_base ho0) hb);have n1_:=a0_ (Kd.R_elder' (rr_ HO_13.out) (Kd.R_base ho0) hb);have n2_:=rb_ Z22 hb;have n3_:=rb_ HO57 hb;have n4_:=a0_ (Kd.R_elder' (rr_ HO60.out) (Kd.R_base ho0) hb);have n5_:=a0_ (Kd.R_elder' (rr_ HO63.out) (Kd.R_base ho0) hb);have n6_:=a0_ (Kd.R_lower (Kd.R_new' (Kd.R_new' (Kd.R_new' (Kd.R_new' ho0 (Kd.R_lt (rr_ HO_8.out))) (Kd.R_lt (rr_ HO_13.out))) (Kd.R_lt (rr_ HO60.out))) (Kd.R_lt (rr_ HO63.out))) (below_size hbw_));have n7_:=kb_ BK1 hb;have n8_:=kb_ BK21 hb;have n9_:=a0_ (below_step hbw_ hb);clear HO_8 HO_13;clear Z22 HO57;clear HO60 HO63;clear BK1 BK21 HB;have HO_8:=n0_;have HO_13:=n1_;have Z22:=n2_;have HO57:=n3_;have HO60:=n4_;have HO63:=n5_;have HO66:=n6_;have BK1:=n7_;have BK21:=n8_;have HB:=n9_;clear n0_ n1_ n2_ n3_ n4_ n5_ n6_ n7_ n8_ n9_;(try clear hb);(try clear ho0)))
               (try simp only [Act.put,s1_,s2_,s3_])
               go_cut [133] (fun v133 wc=>∃ (kq : Nat) (x133_107 : Bool),v133 = .bool x133_107 ∧ Aside0 (laws_FnExactJoinExits.j2 kq t53 t52 x133_107 = some r) ∧ Aside0 (kq ≤ kj71) ∧ Aside0 (Kd.R k38 38 wc w.heap.size (fun _=>True) (.slice Ao109 t28.length co109) t53) ∧ Aside0 (Kd.R k76 76 wc w.heap.size (fun _=>True) (.slice Ao42 t46.length co42) t46) ∧ Aside0 (wc.heap[gb1]? = some (.cells #[(.slice A0_0 l0_0.length c0_0)] 24 (0,0))) ∧ Aside0 (wc.heap[gb21]? = some (.cells #[(.slice Ao42 t46.length co42)] 35 (0,0))) ∧ Aside0 (Below w.heap.size w wc))
               case first =>
                have H:=HC108.out
                clear HC108
                replace H:=Option.bind_eq_some_iff.mp H
                obtain ⟨t68,A1200,H⟩:=H
                try dsimp only at H
                have A120:=a0_ A1200
                clear A1200
                by_cases c121 : t68 = true
                ·subst c121
                 have H1 : (laws_FnExactJoinExits.j2 kj71 t53 t52 (t67 != t17)) = some r:=by rw [if_pos rfl] at H;exact H
                 clear H
                 have H:=H1
                 clear H1
                 have H':=a0_ H
                 clear H
                 obtain ⟨Ao122,co122,eo122⟩:=Kd.R_slice HO66.out
                 subst eo122
                 obtain ⟨Ao123,co123,eo123⟩:=Kd.R_slice HO_8.out
                 subst eo123
                 go_wp2_with (first | ((with_reducible refine gate_callee (f:=14) rfl ?_);refine goesL_ (some 127) rfl rfl Try.func14 (by kernel_rfl) rfl #[.slice Ao122 t64.length co122,.slice Ao123 t14.length co123] rfl lm_ ?_;(with_reducible refine (laws_eqExitS.calls kj71 _ _ t64 _ _ t14 true _ ?side1 ?side2 ?side3 ?side4 A120.out).mono ?_);(case side1=>exact cc_ (Kd.R_reads' HO66.out).2.2);(case side2=>exact (Kd.R_reads' HO66.out).2.1);(case side3=>exact cc_ (Kd.R_reads' HO_8.out).2.2);(case side4=>exact (Kd.R_reads' HO_8.out).2.1);rintro e w124 ⟨rfl,hb⟩;refine ⟨_,rfl,?_⟩;replace HO_8:=rb_ HO_8 hb;replace HO_13:=rb_ HO_13 hb;replace Z22:=rb_ Z22 hb;replace HO57:=rb_ HO57 hb;replace HO60:=rb_ HO60 hb;replace HO63:=rb_ HO63 hb;replace HO66:=rb_ HO66 hb;replace BK1:=kb_ BK1 hb;replace BK21:=kb_ BK21 hb;replace HB:=a0_ (below_step hbw_ hb);(try clear hb);(try clear hb2);(try clear hk);(try clear hi)))
                 go_meet
                 case rel=>exact ⟨_,((t67 != t17)),(by first | rfl | (simp;done) | (simp [*];done)),H',⟨by have:=HJ26.out;have:=HJ71.out;first | omega | exact Nat.le_refl _⟩,⟨by (try simp only [hl22000_71]);(with_reducible repeat (first | apply Kd.R_alloc | apply Kd.R_drewN | apply Kd.R_drew));exact Kd.R_mono HO_13.out (fun _ hk=>trivial)⟩,⟨by (try simp only [hl22000_71]);(with_reducible repeat (first | apply Kd.R_alloc | apply Kd.R_drewN | apply Kd.R_drew));exact Kd.R_mono Z22.out (fun _ hk=>trivial)⟩,⟨by (try simp only [hl22000_71]);(with_reducible repeat (first | refine blk_drewN ?_ _ | refine blk_drew ?_ | refine blk_alloc ?_ _));exact BK1.out⟩,⟨by (try simp only [hl22000_71]);(with_reducible repeat (first | refine blk_drewN ?_ _ | refine blk_drew ?_ | refine blk_alloc ?_ _));exact BK21.out⟩,⟨hbw_⟩⟩
                ·replace c121:=Bool.eq_false_iff.mpr c121
                 subst c121
                 have H1 : (laws_FnExactJoinExits.j2 kj71 t53 t52 true) = some r:=by rw [if_neg (show ¬ (false = true) by decide)] at H;exact H
                 clear H
                 have H:=H1
                 clear H1
                 have H':=a0_ H
                 clear H
                 obtain ⟨Ao125,co125,eo125⟩:=Kd.R_slice HO66.out
                 subst eo125
                 obtain ⟨Ao126,co126,eo126⟩:=Kd.R_slice HO_8.out
                 subst eo126
                 go_wp2_with (first | ((with_reducible refine gate_callee (f:=14) rfl ?_);refine goesL_ (some 127) rfl rfl Try.func14 (by kernel_rfl) rfl #[.slice Ao125 t64.length co125,.slice Ao126 t14.length co126] rfl lm_ ?_;(with_reducible refine (laws_eqExitS.calls kj71 _ _ t64 _ _ t14 false _ ?side1 ?side2 ?side3 ?side4 A120.out).mono ?_);(case side1=>exact cc_ (Kd.R_reads' HO66.out).2.2);(case side2=>exact (Kd.R_reads' HO66.out).2.1);(case side3=>exact cc_ (Kd.R_reads' HO_8.out).2.2);(case side4=>exact (Kd.R_reads' HO_8.out).2.1);rintro e w127 ⟨rfl,hb⟩;refine ⟨_,rfl,?_⟩;replace HO_8:=rb_ HO_8 hb;replace HO_13:=rb_ HO_13 hb;replace Z22:=rb_ Z22 hb;replace HO57:=rb_ HO57 hb;replace HO60:=rb_ HO60 hb;replace HO63:=rb_ HO63 hb;replace HO66:=rb_ HO66 hb;replace BK1:=kb_ BK1 hb;replace BK21:=kb_ BK21 hb;replace HB:=a0_ (below_step hbw_ hb);(try clear hb);(try clear hb2);(try clear hk);(try clear hi)))
                 go_meet
                 case rel=>exact ⟨_,(true),(by first | rfl | (simp;done) | (simp [*];done)),H',⟨by have:=HJ26.out;have:=HJ71.out;first | omega | exact Nat.le_refl _⟩,⟨by (try simp only [hl22000_71]);(with_reducible repeat (first | apply Kd.R_alloc | apply Kd.R_drewN | apply Kd.R_drew));exact Kd.R_mono HO_13.out (fun _ hk=>trivial)⟩,⟨by (try simp only [hl22000_71]);(with_reducible repeat (first | apply Kd.R_alloc | apply Kd.R_drewN | apply Kd.R_drew));exact Kd.R_mono Z22.out (fun _ hk=>trivial)⟩,⟨by (try simp only [hl22000_71]);(with_reducible repeat (first | refine blk_drewN ?_ _ | refine blk_drew ?_ | refine blk_alloc ?_ _));exact BK1.out⟩,⟨by (try simp only [hl22000_71]);(with_reducible repeat (first | refine blk_drewN ?_ _ | refine blk_drew ?_ | refine blk_alloc ?_ _));exact BK21.out⟩,⟨hbw_⟩⟩
               case rest =>
                clear HC108
                try clear c1
                try clear c2
                try clear p2
                try clear c4
                try clear c5
                try clear c5b0
                try clear c6
                try clear c7
                try clear c8
                try clear c9
                try clear c10
                try clear c10b0
                try clear c11
                try clear c12
                try clear c14
                try clear c15
                try clear c15b0
                try clear c16
                try clear c17
                try clear c18
                try clear c22
                try clear c23
                try clear c43
                try clear c52
                try clear c59
                try clear c62
                try clear c65
                try clear c68
                try clear c83
                try clear c88
                try clear c88b0
                try clear c90
                try clear c97
                try clear c100
                try clear c100b0
                try clear c103
                try clear c103b0
                try clear c103b1
                try clear c111
                try clear c121
                try clear hcz112_0
                try clear hcz12_0
                try clear hcz17_0
                try clear hcz29_0
                try clear hcz31_0
                try clear hcz39_0
                try clear hcz44_0
                try clear hcz47_0
                try clear hcz7_0
                try clear hcz84_0
                try clear hfz112_0
                try clear hfz12_0
                try clear hfz17_0
                try clear hfz29_0
                try clear hfz31_0
                try clear hfz39_0
                try clear hfz44_0
                try clear hfz47_0
                try clear hfz7_0
                try clear hfz84_0
                try clear p2
                obtain ⟨kq,x133_107,rfl,HA,HJ107,HO_13,Z22,BK1,BK21,HB⟩:=hcut
                have hl13_107:=(Kd.R_reads' HO_13.out).1
                rw [hl13_107] at HO_13
                (try simp only [hl13_107])
                (try simp only [hl13_107] at BK1)
                (try simp only [hl13_107] at BK21)
                (try simp only [hl13_107] at Z22)
                cases kq with
                | zero=>exact absurd HA.out (by simp [laws_FnExactJoinExits.j2])
                | succ kj107 =>
                 have H:=HA.out
                 clear HA
                 simp only [laws_FnExactJoinExits.j2] at H
                 by_cases c128 : x133_107 = true
                 ·subst c128
                  have H1 : (some false) = some r:=by rw [if_pos rfl] at H;exact H
                  clear H
                  have H:=H1
                  clear H1
                  obtain rfl:=Option.some.inj H
                  go_wp2
                  go_ret
                  exact ⟨by first | rfl | (simp [errW_none,errW_some] <;> rfl) | (simp [*,errW_none,errW_some] <;> rfl),hbw_⟩
                 ·replace c128:=Bool.eq_false_iff.mpr c128
                  subst c128
                  have H1 : ((laws_heldExitS.f kj107 t53 1).bind fun t69=>(if t69 < 0 then (some false) else (if t69 = t52 then (some true) else (some false)))) = some r:=by rw [if_neg (show ¬ (false = true) by decide)] at H;exact H
                  clear H
                  have H:=H1
                  clear H1
                  replace H:=Option.bind_eq_some_iff.mp H
                  obtain ⟨t69,A1290,H⟩:=H
                  try dsimp only at H
                  have A129:=a0_ A1290
                  clear A1290
                  by_cases c130 : t69 < 0
                  ·rw [if_pos c130] at H
                   have c130b0 : decide (t69 < 0) = true:=decide_eq_true c130
                   clear c130
                   obtain rfl:=Option.some.inj H
                   go_wp2_with (first | ((with_reducible refine gate_callee (f:=18) rfl ?_);refine goesL_ (some 136) rfl rfl Try.func18 (by kernel_rfl) rfl #[.slice Ao109 t53.length co109,.int .i64 1] rfl lm_ ?_;(with_reducible refine (laws_heldExitS.calls kj107 _ _ t53 1 t69 _ ?side1 ?side2 A129.out).mono ?_);(case side1=>exact cc_ (Kd.R_reads' HO_13.out).2.2);(case side2=>exact (Kd.R_reads' HO_13.out).2.1);rintro e w' ⟨rfl,⟨nd,rfl⟩⟩;refine ⟨_,rfl,?_⟩))
                   go_ret
                   exact ⟨by first | rfl | (simp [errW_none,errW_some] <;> rfl) | (simp [*,errW_none,errW_some] <;> rfl),hbw_⟩
                  ·rw [if_neg c130] at H
                   have c130b0 : decide (t69 < 0) = false:=decide_eq_false c130
                   clear c130
                   by_cases c131 : t69 = t52
                   ·rw [if_pos c131] at H
                    have c131b0 : (t69 == t52) = true:=beq_iff_eq.mpr c131
                    have c131b1 : (t69 != t52) = false:=bne_eq_false_iff_eq.mpr c131
                    clear c131
                    obtain rfl:=Option.some.inj H
                    go_wp2_with (first | ((with_reducible refine gate_callee (f:=18) rfl ?_);refine goesL_ (some 136) rfl rfl Try.func18 (by kernel_rfl) rfl #[.slice Ao109 t53.length co109,.int .i64 1] rfl lm_ ?_;(with_reducible refine (laws_heldExitS.calls kj107 _ _ t53 1 t69 _ ?side1 ?side2 A129.out).mono ?_);(case side1=>exact cc_ (Kd.R_reads' HO_13.out).2.2);(case side2=>exact (Kd.R_reads' HO_13.out).2.1);rintro e w' ⟨rfl,⟨nd,rfl⟩⟩;refine ⟨_,rfl,?_⟩))
                    go_ret
                    exact ⟨by first | rfl | (simp [errW_none,errW_some] <;> rfl) | (simp [*,errW_none,errW_some] <;> rfl),hbw_⟩
                   ·rw [if_neg c131] at H
                    have c131b0 : (t69 == t52) = false:=beq_eq_false_iff_ne.mpr c131
                    have c131b1 : (t69 != t52) = true:=bne_iff_ne.mpr c131
                    obtain rfl:=Option.some.inj H
                    go_wp2_with (first | ((with_reducible refine gate_callee (f:=18) rfl ?_);refine goesL_ (some 136) rfl rfl Try.func18 (by kernel_rfl) rfl #[.slice Ao109 t53.length co109,.int .i64 1] rfl lm_ ?_;(with_reducible refine (laws_heldExitS.calls kj107 _ _ t53 1 t69 _ ?side1 ?side2 A129.out).mono ?_);(case side1=>exact cc_ (Kd.R_reads' HO_13.out).2.2);(case side2=>exact (Kd.R_reads' HO_13.out).2.1);rintro e w' ⟨rfl,⟨nd,rfl⟩⟩;refine ⟨_,rfl,?_⟩))
                    go_ret
                    exact ⟨by first | rfl | (simp [errW_none,errW_some] <;> rfl) | (simp [*,errW_none,errW_some] <;> rfl),hbw_⟩
              ·rw [if_neg c103] at H
               have c103b0 : (t54 == t52) = false:=beq_eq_false_iff_ne.mpr c103
               have c103b1 : (t54 != t52) = true:=bne_iff_ne.mpr c103
               obtain rfl:=Option.some.inj H
               obtain ⟨Ao132,co132,eo132⟩:=Kd.R_slice HO_13.out
               subst eo132
               go_wp2_with (first | ((with_reducible refine gate_callee (f:=17) rfl ?_);refine goesL_ (some 106) rfl rfl Try.func17 (by kernel_rfl) rfl #[.slice Ao132 t28.length co132,.int .i64 1] rfl lm_ ?_;(with_reducible refine (laws_markExitS.calls kj71 (fun k_=>some k_ = (.slice Ao132 t28.length co132 : Value).ownBlock) (.slice Ao132 t28.length co132) t28 1 t52 t53 w _ ?side1 ?side2 A98.out).mono ?_);(case side1=>exact hbw_);(case side2=>exact Kd.R_tight rfl HO_13.out);rintro e w133 ⟨rfl,hy0,hb,hkp⟩;refine ⟨_,rfl,?_⟩;have n0_:=a0_ (Kd.R_mono (ok':=fun k_=>some k_ ≠ (.slice Ao132 t28.length co132 : Value).ownBlock) (Kd.R_keptB (HO_8.out) hkp (fun k_ hk_ hs_=>(hk_) hs_)) (fun k_ hk_=>hk_.1));have n1_:=a0_ (Kd.R_reok rfl hy0 (fun k_ e_=>HO_13.out.1 k_ e_));have n2_:=a0_ (Kd.R_mono (ok':=fun k_=>True) (Kd.R_keptB ((Kd.R_apart' Z22.out (Kd.R_typed HO_13.out) (by decide))) hkp (fun k_ hk_ hs_=>(hk_.2) hs_)) (fun k_ hk_=>trivial));have n3_:=a0_ (blk_kept (bb_ BK1.out) hkp (fun hs_=>(fun e_=>(Kd.R_ne HO_13.out BK1.out (by decide)) e_) hs_));have n4_:=a0_ (blk_kept (bb_ BK21.out) hkp (fun hs_=>(fun e_=>(Kd.R_ne HO_13.out BK21.out (by decide)) e_) hs_));have n5_:=a0_ (hb);clear HO_8 HO_13;clear Z22 BK1;clear BK21 HB;have HO_8:=n0_;have HO_13:=n1_;have Z22:=n2_;have BK1:=n3_;have BK21:=n4_;have HB:=n5_;clear n0_ n1_ n2_ n3_ n4_ n5_;(try clear hb);(try clear hkp);(try clear hy0)) | ((with_reducible refine gate_callee (f:=18) rfl ?_);refine goesL_ (some 109) rfl rfl Try.func18 (by kernel_rfl) rfl #[.slice Ao132 t53.length co132,.int .i64 1] rfl (by (try simp only [List.map_toArray,List.map_cons,List.map_nil]);first | done | (rw [show t53.length = t28.length from (Kd.R_reads' HO_13.out).1.symm] <;> rfl) | rfl | (simp only [List.length_drop,List.length_take];rfl)) ?_;(with_reducible refine (laws_heldExitS.calls kj71 _ _ t53 1 t54 _ ?side1 ?side2 A99.out).mono ?_);(case side1=>exact cc_ (Kd.R_reads' HO_13.out).2.2);(case side2=>rw [show t53.length = t28.length from (Kd.R_reads' HO_13.out).1.symm];exact (Kd.R_reads' HO_13.out).2.1);rintro e w' ⟨rfl,⟨nd,rfl⟩⟩;refine ⟨_,rfl,?_⟩))
               go_ret
               exact ⟨by first | rfl | (simp [errW_none,errW_some] <;> rfl) | (simp [*,errW_none,errW_some] <;> rfl),hbw_⟩
         ·replace c68:=Bool.eq_false_iff.mpr c68
          subst c68
          have H1 : (some false) = some r:=by rw [if_neg (show ¬ (false = true) by decide)] at H;exact H
          clear H
          have H:=H1
          clear H1
          obtain rfl:=Option.some.inj H
          try go_wp2
          have n0_:=a0_ (Kd.R_drew HO_8.out)
          have n1_:=a0_ (Kd.R_drew HO_11.out)
          have n2_:=a0_ (Kd.R_drew HO_12.out)
          have n3_:=a0_ (Kd.R_drew HO_13.out)
          have n4_:=a0_ (Kd.R_drew Z22.out)
          have n5_:=a0_ (blk_drew BK1.out)
          have n6_:=a0_ (blk_drew BK21.out)
          have n7_:=a0_ (below_drew1 HB.out)
          clear HO_8
          clear HO_11
          clear HO_12
          clear HO_13
          clear Z22
          clear BK1
          clear BK21
          clear HB
          have HO_8:=n0_
          have HO_11:=n1_
          have HO_12:=n2_
          have HO_13:=n3_
          have Z22:=n4_
          have BK1:=n5_
          have BK21:=n6_
          have HB:=n7_
          clear n0_ n1_ n2_ n3_ n4_ n5_ n6_ n7_
          refine start_ (n:=5) (S:=fun w'=>w'.cell? ⟨gb21,0,none⟩ = some (.slice Ao42 t18.length co42) ∧ w'.cell? ⟨gb1,0,none⟩ = some (.slice A0_0 l0_0.length c0_0)) (ds:=[]) #[false,false,false,false,false] (by kernel_rfl) rfl rfl ⟨(blk_cell BK21.out 0).trans rfl,(blk_cell BK1.out 0).trans rfl⟩ (fun hHeld=>?_)
          generalize wc.drew = w134 at HO_8 HO_11 HO_12 HO_13 Z22 BK1 BK21 HB hHeld ⊢
          refine take_ (i:=0) (N:=some 67) (v:=?_) (a':=?_) #[true,false,false,false,false] rfl rfl (by kernel_rfl) (fun _ _ _ h=>h) (Or.inl ⟨by rfl,?_⟩) hHeld ?_ ?_
          rotate_left
          ·rintro w' ⟨s0,s1⟩
           go_simp
           with_reducible rfl
          rotate_left
          ·simp only [Act.put,s1_,s2_,s3_,i64_w,i32_w]
           rfl
          refine take_ (i:=1) (N:=some 68) (v:=?_) (a':=?_) #[true,true,false,false,false] rfl rfl (by kernel_rfl) (fun _ _ _ h=>h) (Or.inl ⟨by rfl,?_⟩) hHeld ?_ ?_
          rotate_left
          ·rintro w' ⟨s0,s1⟩
           go_simp
           with_reducible rfl
          rotate_left
          ·simp only [Act.put,s1_,s2_,s3_,i64_w,i32_w]
           rfl
          refine one_ (i:=2) (N:=some 69) #[true,true,true,false,false] rfl rfl (by kernel_rfl) (by decide) (fun K hK=>?_)
          refine goes_ Try.func10 (by kernel_rfl) rfl #[.agg #[.slice A0_0 l0_0.length c0_0]] (by rfl) rfl rfl lm_ ?_
          with_reducible refine (laws_toTree.calls kj26 _ _ l0_0 t33 _ ?side1 ?side2 A60.out).mono ?_
          (case side1=>exact cc_ (Kd.C_below HR0_0.out HB.out))
          (case side2=>exact HC0_0.out)
          rintro e w135 ⟨v34,rfl,ho0,hb⟩
          refine ⟨_,rfl,?_⟩
          have n0_:=rb_ HO_8 hb
          have n1_:=rb_ HO_11 hb
          have n2_:=rb_ HO_12 hb
          have n3_:=rb_ HO_13 hb
          have n4_:=a0_ (Kd.R_elder' (rr_ Z22.out) (Kd.R_base ho0) hb)
          have n5_:=a0_ (Kd.R_lower (Kd.R_new' ho0 (Kd.R_lt (rr_ Z22.out))) (below_size hbw_))
          have n6_:=kb_ BK1 hb
          have n7_:=kb_ BK21 hb
          have n8_:=a0_ (below_step hbw_ hb)
          clear HO_8
          clear HO_11
          clear HO_12
          clear HO_13
          clear Z22
          clear BK1
          clear BK21
          clear HB
          have HO_8:=n0_
          have HO_11:=n1_
          have HO_12:=n2_
          have HO_13:=n3_
          have Z22:=n4_
          have HO35:=n5_
          have BK1:=n6_
          have BK21:=n7_
          have HB:=n8_
          clear n0_ n1_ n2_ n3_ n4_ n5_ n6_ n7_ n8_
          (try clear hb)
          (try clear hb2)
          (try clear hk)
          (try clear hi)
          (try clear ho0)
          obtain ⟨Ao136,co136,eo136⟩:=Kd.R_slice HO35.out
          (first | subst eo136 | (injection eo136 with f1_ f2_ f3_;have f4_:=f1_.symm;have f5_:=f3_.symm;clear f1_ f2_ f3_;subst f4_;subst f5_))
          refine hK.out _ _ ⟨(blk_cell BK21.out 0).trans rfl,(blk_cell BK1.out 0).trans rfl⟩ (fun hHeld=>?_)
          clear hK K
          refine norm_ (a':=?_) ?_ ?_
          rotate_left
          ·show Act.put _ (some 69) _ = _
           simp only [Act.put,s1_,s2_,s3_,i64_w,i32_w]
           rfl
          refine one_ (i:=3) (N:=some 70) #[true,true,true,true,false] rfl rfl (by kernel_rfl) (by decide) (fun K hK=>?_)
          refine goes_ Try.func15 (by kernel_rfl) rfl #[.agg #[.slice Ao42 t18.length co42],.agg #[.slice Ao136 t33.length co136]] (by rfl) rfl rfl lm_ ?_
          with_reducible refine (laws_eqTree.calls kj26 _ _ t18 _ _ t33 true _ ?side1 ?side2 ?side3 ?side4 A61.out).mono ?_
          (case side1=>exact cc_ (Kd.R_reads' Z22.out).2.2)
          (case side2=>exact (Kd.R_reads' Z22.out).2.1)
          (case side3=>exact cc_ (Kd.R_reads' HO35.out).2.2)
          (case side4=>exact (Kd.R_reads' HO35.out).2.1)
          rintro e w137 ⟨rfl,hb⟩
          refine ⟨_,rfl,?_⟩
          have n0_:=rb_ HO_8 hb
          have n1_:=rb_ HO_11 hb
          have n2_:=rb_ HO_12 hb
          have n3_:=rb_ HO_13 hb
          have n4_:=rb_ Z22 hb
          have n5_:=rb_ HO35 hb
          have n6_:=kb_ BK1 hb
          have n7_:=kb_ BK21 hb
          have n8_:=a0_ (below_step hbw_ hb)
          clear HO_8
          clear HO_11
          clear HO_12
          clear HO_13
          clear Z22
          clear HO35
          clear BK1
          clear BK21
          clear HB
          have HO_8:=n0_
          have HO_11:=n1_
          have HO_12:=n2_
          have HO_13:=n3_
          have Z22:=n4_
          have HO35:=n5_
          have BK1:=n6_
          have BK21:=n7_
          have HB:=n8_
          clear n0_ n1_ n2_ n3_ n4_ n5_ n6_ n7_ n8_
          (try clear hb)
          (try clear hb2)
          (try clear hk)
          (try clear hi)
          refine hK.out _ _ ⟨(blk_cell BK21.out 0).trans rfl,(blk_cell BK1.out 0).trans rfl⟩ (fun hHeld=>?_)
          clear hK K
          refine norm_ (a':=?_) ?_ ?_
          rotate_left
          ·show Act.put _ (some 70) _ = _
           simp only [Act.put,s1_,s2_,s3_,i64_w,i32_w]
           rfl
          refine pure_ (i:=4) (N:=some 71) (v:=?_) (a':=?_) #[true,true,true,true,true] rfl rfl (by kernel_rfl) (fun _ _ _ h=>h) (Or.inl ⟨by rfl,?_⟩) ?_ ?_
          rotate_left
          ·intro w'
           go_simp
           with_reducible rfl
          rotate_left
          ·simp only [Act.put,s1_,s2_,s3_,i64_w,i32_w]
           rfl
          refine done_ (by kernel_rfl) ?_
          try go_wp2_with (first | ((with_reducible refine gate_callee (f:=11) rfl ?_);refine goesL_ (some 74) rfl rfl Try.func11 (by kernel_rfl) rfl #[.slice A1 l1.length c1] rfl lm_ ?_;(with_reducible refine (laws_toExitS.calls kj26 _ _ l1 t37 _ ?side1 ?side2 A63.out).mono ?_);(case side1=>exact cc_ (Kd.C_below HR1.out HB.out));(case side2=>exact HC1.out);rintro e w138 ⟨v38,rfl,ho0,hb⟩;refine ⟨_,rfl,?_⟩;have n0_:=a0_ (Kd.R_elder' (rr_ HO_8.out) (Kd.R_base ho0) hb);have n1_:=a0_ (Kd.R_elder' (rr_ HO_11.out) (Kd.R_base ho0) hb);have n2_:=a0_ (Kd.R_elder' (rr_ HO_12.out) (Kd.R_base ho0) hb);have n3_:=a0_ (Kd.R_elder' (rr_ HO_13.out) (Kd.R_base ho0) hb);have n4_:=rb_ Z22 hb;have n5_:=rb_ HO35 hb;have n6_:=a0_ (Kd.R_lower (Kd.R_new' (Kd.R_new' (Kd.R_new' (Kd.R_new' ho0 (Kd.R_lt (rr_ HO_8.out))) (Kd.R_lt (rr_ HO_11.out))) (Kd.R_lt (rr_ HO_12.out))) (Kd.R_lt (rr_ HO_13.out))) (below_size hbw_));have n7_:=kb_ BK1 hb;have n8_:=kb_ BK21 hb;have n9_:=a0_ (below_step hbw_ hb);clear HO_8 HO_11;clear HO_12 HO_13;clear Z22 HO35;clear BK1 BK21 HB;have HO_8:=n0_;have HO_11:=n1_;have HO_12:=n2_;have HO_13:=n3_;have Z22:=n4_;have HO35:=n5_;have HO39:=n6_;have BK1:=n7_;have BK21:=n8_;have HB:=n9_;clear n0_ n1_ n2_ n3_ n4_ n5_ n6_ n7_ n8_ n9_;(try clear hb);(try clear ho0);obtain ⟨Ao139,co139,eo139⟩:=Kd.R_slice HO39.out;subst eo139) | ((with_reducible refine gate_callee (f:=14) rfl ?_);refine goesL_ (some 75) rfl rfl Try.func14 (by kernel_rfl) rfl #[.slice Ao48 t22.length co48,.slice Ao139 t37.length co139] rfl lm_ ?_;(with_reducible refine (laws_eqExitS.calls kj26 _ _ t22 _ _ t37 true _ ?side1 ?side2 ?side3 ?side4 A64.out).mono ?_);(case side1=>exact cc_ (Kd.R_reads' HO_11.out).2.2);(case side2=>exact (Kd.R_reads' HO_11.out).2.1);(case side3=>exact cc_ (Kd.R_reads' HO39.out).2.2);(case side4=>exact (Kd.R_reads' HO39.out).2.1);rintro e w140 ⟨rfl,hb⟩;refine ⟨_,rfl,?_⟩;replace HO_8:=rb_ HO_8 hb;replace HO_11:=rb_ HO_11 hb;replace HO_12:=rb_ HO_12 hb;replace HO_13:=rb_ HO_13 hb;replace Z22:=rb_ Z22 hb;replace HO35:=rb_ HO35 hb;replace HO39:=rb_ HO39 hb;replace BK1:=kb_ BK1 hb;replace BK21:=kb_ BK21 hb;replace HB:=a0_ (below_step hbw_ hb);(try clear hb);(try clear hb2);(try clear hk);(try clear hi)) | ((with_reducible refine gate_callee (f:=11) rfl ?_);refine goesL_ (some 79) rfl rfl Try.func11 (by kernel_rfl) rfl #[.slice A2 l2.length c2] rfl lm_ ?_;(with_reducible refine (laws_toExitS.calls kj26 _ _ l2 t41 _ ?side1 ?side2 A66.out).mono ?_);(case side1=>exact cc_ (Kd.C_below HR2.out HB.out));(case side2=>exact HC2.out);rintro e w141 ⟨v42,rfl,ho0,hb⟩;refine ⟨_,rfl,?_⟩;have n0_:=a0_ (Kd.R_elder' (rr_ HO_8.out) (Kd.R_base ho0) hb);have n1_:=a0_ (Kd.R_elder' (rr_ HO_11.out) (Kd.R_base ho0) hb);have n2_:=a0_ (Kd.R_elder' (rr_ HO_12.out) (Kd.R_base ho0) hb);have n3_:=a0_ (Kd.R_elder' (rr_ HO_13.out) (Kd.R_base ho0) hb);have n4_:=rb_ Z22 hb;have n5_:=rb_ HO35 hb;have n6_:=a0_ (Kd.R_elder' (rr_ HO39.out) (Kd.R_base ho0) hb);have n7_:=a0_ (Kd.R_lower (Kd.R_new' (Kd.R_new' (Kd.R_new' (Kd.R_new' (Kd.R_new' ho0 (Kd.R_lt (rr_ HO_8.out))) (Kd.R_lt (rr_ HO_11.out))) (Kd.R_lt (rr_ HO_12.out))) (Kd.R_lt (rr_ HO_13.out))) (Kd.R_lt (rr_ HO39.out))) (below_size hbw_));have n8_:=kb_ BK1 hb;have n9_:=kb_ BK21 hb;have n10_:=a0_ (below_step hbw_ hb);clear HO_8 HO_11;clear HO_12 HO_13;clear Z22 HO35;clear HO39 BK1;clear BK21 HB;have HO_8:=n0_;have HO_11:=n1_;have HO_12:=n2_;have HO_13:=n3_;have Z22:=n4_;have HO35:=n5_;have HO39:=n6_;have HO43:=n7_;have BK1:=n8_;have BK21:=n9_;have HB:=n10_;clear n0_ n1_ n2_ n3_ n4_ n5_ n6_ n7_ n8_ n9_ n10_;(try clear hb);(try clear ho0);obtain ⟨Ao142,co142,eo142⟩:=Kd.R_slice HO43.out;subst eo142) | ((with_reducible refine gate_callee (f:=14) rfl ?_);refine goesL_ (some 80) rfl rfl Try.func14 (by kernel_rfl) rfl #[.slice Ao49 t25.length co49,.slice Ao142 t41.length co142] rfl lm_ ?_;(with_reducible refine (laws_eqExitS.calls kj26 _ _ t25 _ _ t41 false _ ?side1 ?side2 ?side3 ?side4 A67.out).mono ?_);(case side1=>exact cc_ (Kd.R_reads' HO_12.out).2.2);(case side2=>exact (Kd.R_reads' HO_12.out).2.1);(case side3=>exact cc_ (Kd.R_reads' HO43.out).2.2);(case side4=>exact (Kd.R_reads' HO43.out).2.1);rintro e w143 ⟨rfl,hb⟩;refine ⟨_,rfl,?_⟩;replace HO_8:=rb_ HO_8 hb;replace HO_11:=rb_ HO_11 hb;replace HO_12:=rb_ HO_12 hb;replace HO_13:=rb_ HO_13 hb;replace Z22:=rb_ Z22 hb;replace HO35:=rb_ HO35 hb;replace HO39:=rb_ HO39 hb;replace HO43:=rb_ HO43 hb;replace BK1:=kb_ BK1 hb;replace BK21:=kb_ BK21 hb;replace HB:=a0_ (below_step hbw_ hb);(try clear hb);(try clear hb2);(try clear hk);(try clear hi)))
          go_ret
          exact ⟨by first | rfl | (simp [errW_none,errW_some] <;> rfl) | (simp [*,errW_none,errW_some] <;> rfl),hbw_⟩
        ·replace c65:=Bool.eq_false_iff.mpr c65
         subst c65
         have H1 : (some false) = some r:=by rw [if_neg (show ¬ (false = true) by decide)] at H;exact H
         clear H
         have H:=H1
         clear H1
         obtain rfl:=Option.some.inj H
         try go_wp2
         have n0_:=a0_ (Kd.R_drew HO_8.out)
         have n1_:=a0_ (Kd.R_drew HO_11.out)
         have n2_:=a0_ (Kd.R_drew HO_12.out)
         have n3_:=a0_ (Kd.R_drew HO_13.out)
         have n4_:=a0_ (Kd.R_drew Z22.out)
         have n5_:=a0_ (blk_drew BK1.out)
         have n6_:=a0_ (blk_drew BK21.out)
         have n7_:=a0_ (below_drew1 HB.out)
         clear HO_8
         clear HO_11
         clear HO_12
         clear HO_13
         clear Z22
         clear BK1
         clear BK21
         clear HB
         have HO_8:=n0_
         have HO_11:=n1_
         have HO_12:=n2_
         have HO_13:=n3_
         have Z22:=n4_
         have BK1:=n5_
         have BK21:=n6_
         have HB:=n7_
         clear n0_ n1_ n2_ n3_ n4_ n5_ n6_ n7_
         refine start_ (n:=5) (S:=fun w'=>w'.cell? ⟨gb21,0,none⟩ = some (.slice Ao42 t18.length co42) ∧ w'.cell? ⟨gb1,0,none⟩ = some (.slice A0_0 l0_0.length c0_0)) (ds:=[]) #[false,false,false,false,false] (by kernel_rfl) rfl rfl ⟨(blk_cell BK21.out 0).trans rfl,(blk_cell BK1.out 0).trans rfl⟩ (fun hHeld=>?_)
         generalize wc.drew = w144 at HO_8 HO_11 HO_12 HO_13 Z22 BK1 BK21 HB hHeld ⊢
         refine take_ (i:=0) (N:=some 67) (v:=?_) (a':=?_) #[true,false,false,false,false] rfl rfl (by kernel_rfl) (fun _ _ _ h=>h) (Or.inl ⟨by rfl,?_⟩) hHeld ?_ ?_
         rotate_left
         ·rintro w' ⟨s0,s1⟩
          go_simp
          with_reducible rfl
         rotate_left
         ·simp only [Act.put,s1_,s2_,s3_,i64_w,i32_w]
          rfl
         refine take_ (i:=1) (N:=some 68) (v:=?_) (a':=?_) #[true,true,false,false,false] rfl rfl (by kernel_rfl) (fun _ _ _ h=>h) (Or.inl ⟨by rfl,?_⟩) hHeld ?_ ?_
         rotate_left
         ·rintro w' ⟨s0,s1⟩
          go_simp
          with_reducible rfl
         rotate_left
         ·simp only [Act.put,s1_,s2_,s3_,i64_w,i32_w]
          rfl
         refine one_ (i:=2) (N:=some 69) #[true,true,true,false,false] rfl rfl (by kernel_rfl) (by decide) (fun K hK=>?_)
         refine goes_ Try.func10 (by kernel_rfl) rfl #[.agg #[.slice A0_0 l0_0.length c0_0]] (by rfl) rfl rfl lm_ ?_
         with_reducible refine (laws_toTree.calls kj26 _ _ l0_0 t33 _ ?side1 ?side2 A60.out).mono ?_
         (case side1=>exact cc_ (Kd.C_below HR0_0.out HB.out))
         (case side2=>exact HC0_0.out)
         rintro e w145 ⟨v34,rfl,ho0,hb⟩
         refine ⟨_,rfl,?_⟩
         have n0_:=rb_ HO_8 hb
         have n1_:=rb_ HO_11 hb
         have n2_:=rb_ HO_12 hb
         have n3_:=rb_ HO_13 hb
         have n4_:=a0_ (Kd.R_elder' (rr_ Z22.out) (Kd.R_base ho0) hb)
         have n5_:=a0_ (Kd.R_lower (Kd.R_new' ho0 (Kd.R_lt (rr_ Z22.out))) (below_size hbw_))
         have n6_:=kb_ BK1 hb
         have n7_:=kb_ BK21 hb
         have n8_:=a0_ (below_step hbw_ hb)
         clear HO_8
         clear HO_11
         clear HO_12
         clear HO_13
         clear Z22
         clear BK1
         clear BK21
         clear HB
         have HO_8:=n0_
         have HO_11:=n1_
         have HO_12:=n2_
         have HO_13:=n3_
         have Z22:=n4_
         have HO35:=n5_
         have BK1:=n6_
         have BK21:=n7_
         have HB:=n8_
         clear n0_ n1_ n2_ n3_ n4_ n5_ n6_ n7_ n8_
         (try clear hb)
         (try clear hb2)
         (try clear hk)
         (try clear hi)
         (try clear ho0)
         obtain ⟨Ao146,co146,eo146⟩:=Kd.R_slice HO35.out
         (first | subst eo146 | (injection eo146 with f1_ f2_ f3_;have f4_:=f1_.symm;have f5_:=f3_.symm;clear f1_ f2_ f3_;subst f4_;subst f5_))
         refine hK.out _ _ ⟨(blk_cell BK21.out 0).trans rfl,(blk_cell BK1.out 0).trans rfl⟩ (fun hHeld=>?_)
         clear hK K
         refine norm_ (a':=?_) ?_ ?_
         rotate_left
         ·show Act.put _ (some 69) _ = _
          simp only [Act.put,s1_,s2_,s3_,i64_w,i32_w]
          rfl
         refine one_ (i:=3) (N:=some 70) #[true,true,true,true,false] rfl rfl (by kernel_rfl) (by decide) (fun K hK=>?_)
         refine goes_ Try.func15 (by kernel_rfl) rfl #[.agg #[.slice Ao42 t18.length co42],.agg #[.slice Ao146 t33.length co146]] (by rfl) rfl rfl lm_ ?_
         with_reducible refine (laws_eqTree.calls kj26 _ _ t18 _ _ t33 true _ ?side1 ?side2 ?side3 ?side4 A61.out).mono ?_
         (case side1=>exact cc_ (Kd.R_reads' Z22.out).2.2)
         (case side2=>exact (Kd.R_reads' Z22.out).2.1)
         (case side3=>exact cc_ (Kd.R_reads' HO35.out).2.2)
         (case side4=>exact (Kd.R_reads' HO35.out).2.1)
         rintro e w147 ⟨rfl,hb⟩
         refine ⟨_,rfl,?_⟩
         have n0_:=rb_ HO_8 hb
         have n1_:=rb_ HO_11 hb
         have n2_:=rb_ HO_12 hb
         have n3_:=rb_ HO_13 hb
         have n4_:=rb_ Z22 hb
         have n5_:=rb_ HO35 hb
         have n6_:=kb_ BK1 hb
         have n7_:=kb_ BK21 hb
         have n8_:=a0_ (below_step hbw_ hb)
         clear HO_8
         clear HO_11
         clear HO_12
         clear HO_13
         clear Z22
         clear HO35
         clear BK1
         clear BK21
         clear HB
         have HO_8:=n0_
         have HO_11:=n1_
         have HO_12:=n2_
         have HO_13:=n3_
         have Z22:=n4_
         have HO35:=n5_
         have BK1:=n6_
         have BK21:=n7_
         have HB:=n8_
         clear n0_ n1_ n2_ n3_ n4_ n5_ n6_ n7_ n8_
         (try clear hb)
         (try clear hb2)
         (try clear hk)
         (try clear hi)
         refine hK.out _ _ ⟨(blk_cell BK21.out 0).trans rfl,(blk_cell BK1.out 0).trans rfl⟩ (fun hHeld=>?_)
         clear hK K
         refine norm_ (a':=?_) ?_ ?_
         rotate_left
         ·show Act.put _ (some 70) _ = _
          simp only [Act.put,s1_,s2_,s3_,i64_w,i32_w]
          rfl
         refine pure_ (i:=4) (N:=some 71) (v:=?_) (a':=?_) #[true,true,true,true,true] rfl rfl (by kernel_rfl) (fun _ _ _ h=>h) (Or.inl ⟨by rfl,?_⟩) ?_ ?_
         rotate_left
         ·intro w'
          go_simp
          with_reducible rfl
         rotate_left
         ·simp only [Act.put,s1_,s2_,s3_,i64_w,i32_w]
          rfl
         refine done_ (by kernel_rfl) ?_
         try go_wp2_with (first | ((with_reducible refine gate_callee (f:=11) rfl ?_);refine goesL_ (some 74) rfl rfl Try.func11 (by kernel_rfl) rfl #[.slice A1 l1.length c1] rfl lm_ ?_;(with_reducible refine (laws_toExitS.calls kj26 _ _ l1 t37 _ ?side1 ?side2 A63.out).mono ?_);(case side1=>exact cc_ (Kd.C_below HR1.out HB.out));(case side2=>exact HC1.out);rintro e w148 ⟨v38,rfl,ho0,hb⟩;refine ⟨_,rfl,?_⟩;have n0_:=a0_ (Kd.R_elder' (rr_ HO_8.out) (Kd.R_base ho0) hb);have n1_:=a0_ (Kd.R_elder' (rr_ HO_11.out) (Kd.R_base ho0) hb);have n2_:=a0_ (Kd.R_elder' (rr_ HO_12.out) (Kd.R_base ho0) hb);have n3_:=a0_ (Kd.R_elder' (rr_ HO_13.out) (Kd.R_base ho0) hb);have n4_:=rb_ Z22 hb;have n5_:=rb_ HO35 hb;have n6_:=a0_ (Kd.R_lower (Kd.R_new' (Kd.R_new' (Kd.R_new' (Kd.R_new' ho0 (Kd.R_lt (rr_ HO_8.out))) (Kd.R_lt (rr_ HO_11.out))) (Kd.R_lt (rr_ HO_12.out))) (Kd.R_lt (rr_ HO_13.out))) (below_size hbw_));have n7_:=kb_ BK1 hb;have n8_:=kb_ BK21 hb;have n9_:=a0_ (below_step hbw_ hb);clear HO_8 HO_11;clear HO_12 HO_13;clear Z22 HO35;clear BK1 BK21 HB;have HO_8:=n0_;have HO_11:=n1_;have HO_12:=n2_;have HO_13:=n3_;have Z22:=n4_;have HO35:=n5_;have HO39:=n6_;have BK1:=n7_;have BK21:=n8_;have HB:=n9_;clear n0_ n1_ n2_ n3_ n4_ n5_ n6_ n7_ n8_ n9_;(try clear hb);(try clear ho0);obtain ⟨Ao149,co149,eo149⟩:=Kd.R_slice HO39.out;subst eo149) | ((with_reducible refine gate_callee (f:=14) rfl ?_);refine goesL_ (some 75) rfl rfl Try.func14 (by kernel_rfl) rfl #[.slice Ao48 t22.length co48,.slice Ao149 t37.length co149] rfl lm_ ?_;(with_reducible refine (laws_eqExitS.calls kj26 _ _ t22 _ _ t37 false _ ?side1 ?side2 ?side3 ?side4 A64.out).mono ?_);(case side1=>exact cc_ (Kd.R_reads' HO_11.out).2.2);(case side2=>exact (Kd.R_reads' HO_11.out).2.1);(case side3=>exact cc_ (Kd.R_reads' HO39.out).2.2);(case side4=>exact (Kd.R_reads' HO39.out).2.1);rintro e w150 ⟨rfl,hb⟩;refine ⟨_,rfl,?_⟩;replace HO_8:=rb_ HO_8 hb;replace HO_11:=rb_ HO_11 hb;replace HO_12:=rb_ HO_12 hb;replace HO_13:=rb_ HO_13 hb;replace Z22:=rb_ Z22 hb;replace HO35:=rb_ HO35 hb;replace HO39:=rb_ HO39 hb;replace BK1:=kb_ BK1 hb;replace BK21:=kb_ BK21 hb;replace HB:=a0_ (below_step hbw_ hb);(try clear hb);(try clear hb2);(try clear hk);(try clear hi)))
         go_ret
         exact ⟨by first | rfl | (simp [errW_none,errW_some] <;> rfl) | (simp [*,errW_none,errW_some] <;> rfl),hbw_⟩
       ·replace c62:=Bool.eq_false_iff.mpr c62
        subst c62
        have H1 : (some false) = some r:=by rw [if_neg (show ¬ (false = true) by decide)] at H;exact H
        clear H
        have H:=H1
        clear H1
        obtain rfl:=Option.some.inj H
        try go_wp2
        have n0_:=a0_ (Kd.R_drew HO_8.out)
        have n1_:=a0_ (Kd.R_drew HO_11.out)
        have n2_:=a0_ (Kd.R_drew HO_12.out)
        have n3_:=a0_ (Kd.R_drew HO_13.out)
        have n4_:=a0_ (Kd.R_drew Z22.out)
        have n5_:=a0_ (blk_drew BK1.out)
        have n6_:=a0_ (blk_drew BK21.out)
        have n7_:=a0_ (below_drew1 HB.out)
        clear HO_8
        clear HO_11
        clear HO_12
        clear HO_13
        clear Z22
        clear BK1
        clear BK21
        clear HB
        have HO_8:=n0_
        have HO_11:=n1_
        have HO_12:=n2_
        have HO_13:=n3_
        have Z22:=n4_
        have BK1:=n5_
        have BK21:=n6_
        have HB:=n7_
        clear n0_ n1_ n2_ n3_ n4_ n5_ n6_ n7_
        refine start_ (n:=5) (S:=fun w'=>w'.cell? ⟨gb21,0,none⟩ = some (.slice Ao42 t18.length co42) ∧ w'.cell? ⟨gb1,0,none⟩ = some (.slice A0_0 l0_0.length c0_0)) (ds:=[]) #[false,false,false,false,false] (by kernel_rfl) rfl rfl ⟨(blk_cell BK21.out 0).trans rfl,(blk_cell BK1.out 0).trans rfl⟩ (fun hHeld=>?_)
        generalize wc.drew = w151 at HO_8 HO_11 HO_12 HO_13 Z22 BK1 BK21 HB hHeld ⊢
        refine take_ (i:=0) (N:=some 67) (v:=?_) (a':=?_) #[true,false,false,false,false] rfl rfl (by kernel_rfl) (fun _ _ _ h=>h) (Or.inl ⟨by rfl,?_⟩) hHeld ?_ ?_
        rotate_left
        ·rintro w' ⟨s0,s1⟩
         go_simp
         with_reducible rfl
        rotate_left
        ·simp only [Act.put,s1_,s2_,s3_,i64_w,i32_w]
         rfl
        refine take_ (i:=1) (N:=some 68) (v:=?_) (a':=?_) #[true,true,false,false,false] rfl rfl (by kernel_rfl) (fun _ _ _ h=>h) (Or.inl ⟨by rfl,?_⟩) hHeld ?_ ?_
        rotate_left
        ·rintro w' ⟨s0,s1⟩
         go_simp
         with_reducible rfl
        rotate_left
        ·simp only [Act.put,s1_,s2_,s3_,i64_w,i32_w]
         rfl
        refine one_ (i:=2) (N:=some 69) #[true,true,true,false,false] rfl rfl (by kernel_rfl) (by decide) (fun K hK=>?_)
        refine goes_ Try.func10 (by kernel_rfl) rfl #[.agg #[.slice A0_0 l0_0.length c0_0]] (by rfl) rfl rfl lm_ ?_
        with_reducible refine (laws_toTree.calls kj26 _ _ l0_0 t33 _ ?side1 ?side2 A60.out).mono ?_
        (case side1=>exact cc_ (Kd.C_below HR0_0.out HB.out))
        (case side2=>exact HC0_0.out)
        rintro e w152 ⟨v34,rfl,ho0,hb⟩
        refine ⟨_,rfl,?_⟩
        have n0_:=rb_ HO_8 hb
        have n1_:=rb_ HO_11 hb
        have n2_:=rb_ HO_12 hb
        have n3_:=rb_ HO_13 hb
        have n4_:=a0_ (Kd.R_elder' (rr_ Z22.out) (Kd.R_base ho0) hb)
        have n5_:=a0_ (Kd.R_lower (Kd.R_new' ho0 (Kd.R_lt (rr_ Z22.out))) (below_size hbw_))
        have n6_:=kb_ BK1 hb
        have n7_:=kb_ BK21 hb
        have n8_:=a0_ (below_step hbw_ hb)
        clear HO_8
        clear HO_11
        clear HO_12
        clear HO_13
        clear Z22
        clear BK1
        clear BK21
        clear HB
        have HO_8:=n0_
        have HO_11:=n1_
        have HO_12:=n2_
        have HO_13:=n3_
        have Z22:=n4_
        have HO35:=n5_
        have BK1:=n6_
        have BK21:=n7_
        have HB:=n8_
        clear n0_ n1_ n2_ n3_ n4_ n5_ n6_ n7_ n8_
        (try clear hb)
        (try clear hb2)
        (try clear hk)
        (try clear hi)
        (try clear ho0)
        obtain ⟨Ao153,co153,eo153⟩:=Kd.R_slice HO35.out
        (first | subst eo153 | (injection eo153 with f1_ f2_ f3_;have f4_:=f1_.symm;have f5_:=f3_.symm;clear f1_ f2_ f3_;subst f4_;subst f5_))
        refine hK.out _ _ ⟨(blk_cell BK21.out 0).trans rfl,(blk_cell BK1.out 0).trans rfl⟩ (fun hHeld=>?_)
        clear hK K
        refine norm_ (a':=?_) ?_ ?_
        rotate_left
        ·show Act.put _ (some 69) _ = _
         simp only [Act.put,s1_,s2_,s3_,i64_w,i32_w]
         rfl
        refine one_ (i:=3) (N:=some 70) #[true,true,true,true,false] rfl rfl (by kernel_rfl) (by decide) (fun K hK=>?_)
        refine goes_ Try.func15 (by kernel_rfl) rfl #[.agg #[.slice Ao42 t18.length co42],.agg #[.slice Ao153 t33.length co153]] (by rfl) rfl rfl lm_ ?_
        with_reducible refine (laws_eqTree.calls kj26 _ _ t18 _ _ t33 false _ ?side1 ?side2 ?side3 ?side4 A61.out).mono ?_
        (case side1=>exact cc_ (Kd.R_reads' Z22.out).2.2)
        (case side2=>exact (Kd.R_reads' Z22.out).2.1)
        (case side3=>exact cc_ (Kd.R_reads' HO35.out).2.2)
        (case side4=>exact (Kd.R_reads' HO35.out).2.1)
        rintro e w154 ⟨rfl,hb⟩
        refine ⟨_,rfl,?_⟩
        have n0_:=rb_ HO_8 hb
        have n1_:=rb_ HO_11 hb
        have n2_:=rb_ HO_12 hb
        have n3_:=rb_ HO_13 hb
        have n4_:=rb_ Z22 hb
        have n5_:=rb_ HO35 hb
        have n6_:=kb_ BK1 hb
        have n7_:=kb_ BK21 hb
        have n8_:=a0_ (below_step hbw_ hb)
        clear HO_8
        clear HO_11
        clear HO_12
        clear HO_13
        clear Z22
        clear HO35
        clear BK1
        clear BK21
        clear HB
        have HO_8:=n0_
        have HO_11:=n1_
        have HO_12:=n2_
        have HO_13:=n3_
        have Z22:=n4_
        have HO35:=n5_
        have BK1:=n6_
        have BK21:=n7_
        have HB:=n8_
        clear n0_ n1_ n2_ n3_ n4_ n5_ n6_ n7_ n8_
        (try clear hb)
        (try clear hb2)
        (try clear hk)
        (try clear hi)
        refine hK.out _ _ ⟨(blk_cell BK21.out 0).trans rfl,(blk_cell BK1.out 0).trans rfl⟩ (fun hHeld=>?_)
        clear hK K
        refine norm_ (a':=?_) ?_ ?_
        rotate_left
        ·show Act.put _ (some 70) _ = _
         simp only [Act.put,s1_,s2_,s3_,i64_w,i32_w]
         rfl
        refine pure_ (i:=4) (N:=some 71) (v:=?_) (a':=?_) #[true,true,true,true,true] rfl rfl (by kernel_rfl) (fun _ _ _ h=>h) (Or.inl ⟨by rfl,?_⟩) ?_ ?_
        rotate_left
        ·intro w'
         go_simp
         with_reducible rfl
        rotate_left
        ·simp only [Act.put,s1_,s2_,s3_,i64_w,i32_w]
         rfl
        refine done_ (by kernel_rfl) ?_
        try go_wp2
        go_ret
        exact ⟨by first | rfl | (simp [errW_none,errW_some] <;> rfl) | (simp [*,errW_none,errW_some] <;> rfl),hbw_⟩
end Go.Proofs.Ytjcodcimodnbjaa.P
namespace Go.Proofs.Ytjcodcimodnbjaa.Pure
open Go.RowKit Go.Proofs.Ytjcodcimodnbjaa.P
set_option linter.unusedVariables false
theorem FnExactJoinExits (l0_0 : List S73) (l1 : List S27) (l2 : List S27) (G0_0 : (l0_0.length ≤ maxLen ∧ ∀ x ∈ l0_0,(x.f0.size ≤ maxLen ∧ (Lit.int .i64 x.f1).wf = true))) (g1 : (l1.length ≤ maxLen ∧ ∀ x ∈ l1,((Lit.int .i64 x.f0).wf = true ∧ (Lit.int .i64 x.f1).wf = true ∧ (Lit.int .i64 x.f2).wf = true))) (g2 : (l2.length ≤ maxLen ∧ ∀ x ∈ l2,((Lit.int .i64 x.f0).wf = true ∧ (Lit.int .i64 x.f1).wf = true ∧ (Lit.int .i64 x.f2).wf = true))) : ∃ k,laws_FnExactJoinExits.f k l0_0 l1 l2 = some true:=by
 have hmax : maxLen = 9223372036854775807:=by decide
 rw [hmax] at G0_0 g1 g2
 refine Ev.out (F:=fun k=>laws_FnExactJoinExits.f k l0_0 l1 l2) ?_
 unfold laws_FnExactJoinExits.f
 obtain ⟨v0,hv0,hg0⟩:=laws_szTree_ev l0_0 1048576 (by omega) (by omega) G0_0.1 (fun x hx=>(G0_0.2 x hx).1)
 refine Ev.bind hv0 ?_
 by_cases hn0 : v0 < 0
 ·exact Ev.pos hn0 (Ev.const rfl)
 refine Ev.neg hn0 ?_
 obtain ⟨hva0,hl0,hs⟩:=hg0 (by omega)
 obtain ⟨v1,hv1,hg1⟩:=laws_szExitS_ev l1 v0 (by omega) (by omega) g1.1
 refine Ev.bind hv1 ?_
 by_cases hn1 : v1 < 0
 ·exact Ev.pos hn1 (Ev.const rfl)
 refine Ev.neg hn1 ?_
 obtain ⟨hva1,hl1⟩:=hg1 (by omega)
 obtain ⟨v2,hv2,hg2⟩:=laws_szExitS_ev l2 v1 (by omega) (by omega) g2.1
 refine Ev.bind hv2 ?_
 by_cases hn2 : v2 < 0
 ·exact Ev.pos hn2 (Ev.const rfl)
 refine Ev.neg hn2 ?_
 obtain ⟨hva2,hl2⟩:=hg2 (by omega)
 have hT0:=laws_toTree_ev l0_0 (by omega)
 have hm0 : (l0_0.map toC).length ≤ 1048576:=by rw [List.length_map];omega
 have hT1:=laws_toExitS_ev l1 (by omega)
 have hm1 : (l1.map toExit).length ≤ 1048576:=by rw [List.length_map];omega
 have hT2:=laws_toExitS_ev l2 (by omega)
 have hm2 : (l2.map toExit).length ≤ 1048576:=by rw [List.length_map];omega
 have hsm:=smT_of hs
 have hS : Ev (fun k=>spec_JoinExits.f k (l0_0.map toC) (l1.map toExit) (l2.map toExit)) (jexP (l0_0.map toC) (l1.map toExit) (l2.map toExit)):=spec_JoinExits_ev (l0_0.map toC) (l1.map toExit) (l2.map toExit) hsm (by omega) (by omega) (by omega)
 have hG : Ev (fun k=>impl_JoinExits.f (l0_0.map toC) (l1.map toExit) (l2.map toExit)) (jexP (l0_0.map toC) (l1.map toExit) (l2.map toExit)):=Ev.const (impl_JoinExits_ev (l0_0.map toC) (l1.map toExit) (l2.map toExit) hsm (by omega) (by omega))
 have hrl:=jexP_len (l0_0.map toC) (l1.map toExit) (l2.map toExit)
 generalize jexP (l0_0.map toC) (l1.map toExit) (l2.map toExit) = r at hS hG hrl
 obtain ⟨r0,r1⟩:=r
 simp only at hrl
 have hEr0:=laws_eqExitS_ev r0 (by omega)
 obtain ⟨l',hM0⟩:=laws_markTree_ev (l0_0.map toC) (1) (by omega) (by omega)
 have hM1:=laws_markExitS_ev (l1.map toExit) (1 + 2 * (l0_0.map toC).length) (by omega) (by omega)
 have hM2:=laws_markExitS_ev (l2.map toExit) (1 + 2 * (l0_0.map toC).length + 3 * (l1.map toExit).length) (by omega) (by omega)
 have hm9r0:=laws_markExitS_ev r0 (1) (by omega) (by omega)
 have hhr0:=laws_heldExitS_ev (1) r0.length (by omega) (by omega)
 refine Ev.bind hT0 (Ev.bind hT1 (Ev.bind hT2 (Ev.bind hS (Ev.bind hT0 (Ev.bind hT1 (Ev.bind hT2 (Ev.bind hG (Ev.bind hEr0 (Ev.pos rfl ?_)))))))))
 refine Ev.succ ?_
 simp only [laws_FnExactJoinExits.j0]
 refine Ev.neg (by simp) (Ev.bind hT0 (Ev.bind (laws_eqTree_ev _ (by omega)) (Ev.pos rfl (Ev.bind hT1 (Ev.bind (laws_eqExitS_ev _ (by omega)) (Ev.pos rfl (Ev.bind hT2 (Ev.bind (laws_eqExitS_ev _ (by omega)) (Ev.pos rfl (Ev.bind hM0 (Ev.bind hM1 (Ev.bind hM2 (Ev.neg (by show ¬ (_ < (0 : Int));omega) (Ev.bind hEr0 (Ev.pos rfl ?_)))))))))))))))
 refine Ev.succ ?_
 simp only [laws_FnExactJoinExits.j1]
 refine Ev.neg (by simp) (Ev.bind hm9r0 (Ev.bind hhr0 (Ev.neg (by omega) (Ev.pos rfl (Ev.bind hT0 (Ev.bind hT1 (Ev.bind hT2 (Ev.bind hG (Ev.bind hEr0 (Ev.pos rfl ?_))))))))))
 refine Ev.succ ?_
 simp only [laws_FnExactJoinExits.j2]
 exact Ev.neg (by simp) (Ev.bind hhr0 (Ev.neg (by omega) (Ev.pos rfl (Ev.const rfl))))
end Go.Proofs.Ytjcodcimodnbjaa.Pure
