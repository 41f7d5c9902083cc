/- Texts under the proof of FnExactEscapesOf: helper words, the functions' contracts and the plain laws. No condition. -/
import Derived.Test.YtjcodcimodnbjaaQFnExactEscapesOfa
import Derived.Test.YtjcodcimodnbjaaQFnExactEscapesOfb
import Derived.Test.YtjcodcimodnbjaaQFnExactEscapesOfc
namespace Go.Proofs.Ytjcodcimodnbjaa.P
open Go.RowKit Go.Proofs.YtjcodcimodnbjaaW.PrintWords Go.Proofs.YtjcodcimodnbjaaW.PrintLast Go.Proofs.YtjcodcimodnbjaaW.PrintMore
attribute [local go_sem] max2_int min2_int max_two min_two max_three min_three max_four min_four
set_option linter.unusedVariables false
set_option linter.unusedSimpArgs false
def laws_FnExactEscapesOf.j0 : Nat → List (S27) → List Int → List Int → Bool → List (S73) → Option (Bool)
 | 0,_,_,_,_,_=>none
 | k + 1,x1,x6,x9,x63,x2000=>if x63 = true then (some false) else ((laws_markIntS.f k x9 1).bind fun bt37=>((laws_heldIntS.f k bt37.2 1).bind fun t39=>(if t39 < 0 then (some false) else (if t39 = bt37.1 then ((laws_toTree.f k x2000).bind fun t40=>((laws_toExitS.f k x1).bind fun t43=>((impl_EscapesOf.f t40 t43).bind fun t46=>((laws_eqIntS.f k t46 x6).bind fun t49=>(if t49 = true then ((laws_heldIntS.f k bt37.2 1).bind fun t50=>(if t50 < 0 then (some false) else (if t50 = bt37.1 then (some true) else (some false)))) else (some false)))))) else (some false)))))
def laws_FnExactEscapesOf.f (k : Nat) (l0_0 : List (S73)) (l1 : List (S27)) : Option (Bool):=(laws_szTree.f k l0_0 1048576).bind fun t2=>(if t2 < 0 then (some true) else ((laws_szExitS.f l1 t2).bind fun t3=>(if t3 < 0 then (some true) else ((laws_toTree.f k l0_0).bind fun t4=>((laws_toExitS.f k l1).bind fun t7=>((spec_EscapesOf.f k t4 t7).bind fun t10=>((laws_toTree.f k l0_0).bind fun t13=>((laws_toExitS.f k l1).bind fun t17=>((impl_EscapesOf.f t13 t17).bind fun t20=>((laws_eqIntS.f k t20 t10).bind fun t23=>(if t23 = true then ((laws_toTree.f k l0_0).bind fun t24=>((laws_eqTree.f k t13 t24).bind fun t27=>(if t27 = true then ((laws_toExitS.f k l1).bind fun t28=>((laws_eqExitS.f k t17 t28).bind fun t31=>(if t31 = true then ((laws_markTree.f k t13 1).bind fun bt32=>((laws_markExitS.f k t17 bt32.1).bind fun bt34=>(if bt34.1 < 0 then (laws_FnExactEscapesOf.j0 k l1 t10 t20 true l0_0) else ((laws_eqIntS.f k t20 t10).bind fun t36=>(laws_FnExactEscapesOf.j0 k l1 t10 t20 (!t36) l0_0))))) else (some false)))) else (some false)))) else (some false))))))))))))
theorem laws_FnExactEscapesOf.mono_l : ∀ k,(∀ y0 y1 y2 y3 y4,LeO (laws_FnExactEscapesOf.j0 k y0 y1 y2 y3 y4) (laws_FnExactEscapesOf.j0 (k + 1) y0 y1 y2 y3 y4))
 | 0=>fun _ _ _ _ _ r h=>by simp [laws_FnExactEscapesOf.j0] at h
 | k + 1=>by
  have ih0:=laws_FnExactEscapesOf.mono_l k
  ·intro y0 y1 y2 y3 y4
   unfold laws_FnExactEscapesOf.j0
   repeat' first
   | (with_reducible exact ih0 _ _ _ _ _)
   | (with_reducible exact laws_eqExitS.mono _ _ _)
   | (with_reducible exact laws_eqIntS.mono _ _ _)
   | (with_reducible exact laws_eqTree.mono _ _ _)
   | (with_reducible exact laws_heldIntS.mono _ _ _)
   | (with_reducible exact laws_markExitS.mono _ _ _)
   | (with_reducible exact laws_markIntS.mono _ _ _)
   | (with_reducible exact laws_markTree.mono _ _ _)
   | (with_reducible exact laws_szTree.mono _ _ _)
   | (with_reducible exact laws_toExitS.mono _ _)
   | (with_reducible exact laws_toTree.mono _ _)
   | (with_reducible exact spec_EscapesOf.mono _ _ _)
   | (with_reducible exact LeO.refl _)
   | (with_reducible exact LeO.none _)
   | (with_reducible refine LeO.ite ?_ ?_)
   | (with_reducible refine LeO.bind ?_ (fun _=>?_))
   | exact ih0 _ _ _ _ _
   | exact laws_eqExitS.mono _ _ _
   | exact laws_eqIntS.mono _ _ _
   | exact laws_eqTree.mono _ _ _
   | exact laws_heldIntS.mono _ _ _
   | exact laws_markExitS.mono _ _ _
   | exact laws_markIntS.mono _ _ _
   | exact laws_markTree.mono _ _ _
   | exact laws_szTree.mono _ _ _
   | exact laws_toExitS.mono _ _
   | exact laws_toTree.mono _ _
   | exact spec_EscapesOf.mono _ _ _
   | exact LeO.none _
   | refine LeO.ite ?_ ?_
   | refine LeO.bind ?_ (fun _=>?_)
theorem laws_FnExactEscapesOf.mono : ∀ a0 a1 k,LeO (laws_FnExactEscapesOf.f k a0 a1) (laws_FnExactEscapesOf.f (k + 1) a0 a1):=by
 intro a0 a1 k
 have ih0:=laws_FnExactEscapesOf.mono_l k
 unfold laws_FnExactEscapesOf.f
 repeat' first
   | (with_reducible exact ih0 _ _ _ _ _)
   | (with_reducible exact laws_eqExitS.mono _ _ _)
   | (with_reducible exact laws_eqIntS.mono _ _ _)
   | (with_reducible exact laws_eqTree.mono _ _ _)
   | (with_reducible exact laws_heldIntS.mono _ _ _)
   | (with_reducible exact laws_markExitS.mono _ _ _)
   | (with_reducible exact laws_markIntS.mono _ _ _)
   | (with_reducible exact laws_markTree.mono _ _ _)
   | (with_reducible exact laws_szTree.mono _ _ _)
   | (with_reducible exact laws_toExitS.mono _ _)
   | (with_reducible exact laws_toTree.mono _ _)
   | (with_reducible exact spec_EscapesOf.mono _ _ _)
   | (with_reducible exact LeO.refl _)
   | (with_reducible exact LeO.none _)
   | (with_reducible refine LeO.ite ?_ ?_)
   | (with_reducible refine LeO.bind ?_ (fun _=>?_))
   | exact ih0 _ _ _ _ _
   | exact laws_eqExitS.mono _ _ _
   | exact laws_eqIntS.mono _ _ _
   | exact laws_eqTree.mono _ _ _
   | exact laws_heldIntS.mono _ _ _
   | exact laws_markExitS.mono _ _ _
   | exact laws_markIntS.mono _ _ _
   | exact laws_markTree.mono _ _ _
   | exact laws_szTree.mono _ _ _
   | exact laws_toExitS.mono _ _
   | exact laws_toTree.mono _ _
   | exact spec_EscapesOf.mono _ _ _
   | exact LeO.none _
   | refine LeO.ite ?_ ?_
   | refine LeO.bind ?_ (fun _=>?_)
set_option maxHeartbeats 8000000 in
set_option maxRecDepth 100000 in
theorem laws_FnExactEscapesOf.calls (k : Nat) (A0_0 : Option Addr) (c0_0 : Nat) (l0_0 : List (S73)) (A1 : Option Addr) (c1 : Nat) (l1 : List (S27)) (r : Bool) (w : World) (hr0_0 : Kd.C k73 w A0_0 l0_0.length l0_0) (hc0_0 : l0_0.length ≤ c0_0) (hr1 : Kd.C k27 w A1 l1.length l1) (hc1 : l1.length ≤ c1) (h : laws_FnExactEscapesOf.f k l0_0 l1 = some r) :
  Calls Try.prog 6 #[.agg #[.slice A0_0 l0_0.length c0_0],.slice A1 l1.length c1] w fun e w'=>e = .returned (.bool r) ∧ Below w.heap.size w w':=by
 have hu24:=Try.underlying24
 have hu35:=Try.underlying35
 have HR0_0:=a0_ hr0_0
 have HC0_0:=a0_ hc0_0
 clear hr0_0 hc0_0
 have HR1:=a0_ hr1
 have HC1:=a0_ hc1
 clear hr1 hc1
 have HB:=a0_ (Below.refl w.heap.size w)
 have H : ((laws_szTree.f k l0_0 1048576).bind fun t2=>(if t2 < 0 then (some true) else ((laws_szExitS.f l1 t2).bind fun t3=>(if t3 < 0 then (some true) else ((laws_toTree.f k l0_0).bind fun t4=>((laws_toExitS.f k l1).bind fun t7=>((spec_EscapesOf.f k t4 t7).bind fun t10=>((laws_toTree.f k l0_0).bind fun t13=>((laws_toExitS.f k l1).bind fun t17=>((impl_EscapesOf.f t13 t17).bind fun t20=>((laws_eqIntS.f k t20 t10).bind fun t23=>(if t23 = true then ((laws_toTree.f k l0_0).bind fun t24=>((laws_eqTree.f k t13 t24).bind fun t27=>(if t27 = true then ((laws_toExitS.f k l1).bind fun t28=>((laws_eqExitS.f k t17 t28).bind fun t31=>(if t31 = true then ((laws_markTree.f k t13 1).bind fun bt32=>((laws_markExitS.f k t17 bt32.1).bind fun bt34=>(if bt34.1 < 0 then (laws_FnExactEscapesOf.j0 k l1 t10 t20 true l0_0) else ((laws_eqIntS.f k t20 t10).bind fun t36=>(laws_FnExactEscapesOf.j0 k l1 t10 t20 (!t36) l0_0))))) else (some false)))) else (some false)))) else (some false))))))))))))) = some r:=h
 clear h
 replace H:=Option.bind_eq_some_iff.mp H
 obtain ⟨t2,A30,H⟩:=H
 try dsimp only at H
 have A3:=a0_ A30
 clear A30
 by_cases c4 : t2 < 0
 ·rw [if_pos c4] at H
  have c4b0 : decide (t2 < 0) = true:=decide_eq_true c4
  clear c4
  obtain rfl:=Option.some.inj H
  go_enter Try.func6,Try.ntmps6
  go_wp2_with (first | ((with_reducible refine gate_dst (N:=2) rfl ?_);refine box_event ?hg (N:=2) ?hd (cs:=#[.slice A0_0 l0_0.length c0_0]) (t:=24) ?hr ?_;(case hd=>rfl);(case hg=>rfl);(case hr=>first | (go_simp;done) | (go_simp;rfl));intro gb1 hg w5 hbox hb;have BK1:=a0_ (hbox);have GW1:=a0_ ((by rw [hg];exact (below_size hbw_) : w.heap.size ≤ gb1));have GE1:=a0_ ((by rw [hg];exact (below_size hbw_) : w.heap.size ≤ gb1));replace HB:=a0_ (below_step hbw_ hb);clear hb hbox hg;have hcz6_0 : w5.cell? ⟨gb1,0,none⟩ = some (.slice A0_0 l0_0.length c0_0):=(blk_cell BK1.out 0).trans rfl;have hfz6_0:=blk_frozen BK1.out 0) | ((with_reducible refine gate_callee (f:=7) rfl ?_);refine goesL_ (some 16) rfl rfl Try.func7 (by kernel_rfl) rfl #[.agg #[.slice A0_0 l0_0.length c0_0],.int .i64 1048576] rfl lm_ ?_;(with_reducible refine (laws_szTree.calls k _ _ l0_0 1048576 t2 _ ?side1 ?side2 A3.out).mono ?_);(case side1=>exact cc_ (Kd.C_below HR0_0.out HB.out));(case side2=>exact HC0_0.out);rintro e w7 ⟨rfl,hb⟩;refine ⟨_,rfl,?_⟩;replace BK1:=kb_ BK1 hb;replace HB:=a0_ (below_step hbw_ hb);(try clear hb);(try clear hb2);(try clear hk);(try clear hi)))
  go_ret
  exact ⟨by first | rfl | (simp [errW_none,errW_some] <;> rfl) | (simp [*,errW_none,errW_some] <;> rfl),hbw_⟩
 ·rw [if_neg c4] at H
  have c4b0 : decide (t2 < 0) = false:=decide_eq_false c4
  clear c4
  replace H:=Option.bind_eq_some_iff.mp H
  obtain ⟨t3,A80,H⟩:=H
  try dsimp only at H
  have A8:=a0_ A80
  clear A80
  by_cases c9 : t3 < 0
  ·rw [if_pos c9] at H
   have c9b0 : decide (t3 < 0) = true:=decide_eq_true c9
   clear c9
   obtain rfl:=Option.some.inj H
   go_enter Try.func6,Try.ntmps6
   go_wp2_with (first | ((with_reducible refine gate_dst (N:=2) rfl ?_);refine box_event ?hg (N:=2) ?hd (cs:=#[.slice A0_0 l0_0.length c0_0]) (t:=24) ?hr ?_;(case hd=>rfl);(case hg=>rfl);(case hr=>first | (go_simp;done) | (go_simp;rfl));intro gb1 hg w10 hbox hb;have BK1:=a0_ (hbox);have GW1:=a0_ ((by rw [hg];exact (below_size hbw_) : w.heap.size ≤ gb1));have GE1:=a0_ ((by rw [hg];exact (below_size hbw_) : w.heap.size ≤ gb1));replace HB:=a0_ (below_step hbw_ hb);clear hb hbox hg;have hcz11_0 : w10.cell? ⟨gb1,0,none⟩ = some (.slice A0_0 l0_0.length c0_0):=(blk_cell BK1.out 0).trans rfl;have hfz11_0:=blk_frozen BK1.out 0) | ((with_reducible refine gate_callee (f:=7) rfl ?_);refine goesL_ (some 16) rfl rfl Try.func7 (by kernel_rfl) rfl #[.agg #[.slice A0_0 l0_0.length c0_0],.int .i64 1048576] rfl lm_ ?_;(with_reducible refine (laws_szTree.calls k _ _ l0_0 1048576 t2 _ ?side1 ?side2 A3.out).mono ?_);(case side1=>exact cc_ (Kd.C_below HR0_0.out HB.out));(case side2=>exact HC0_0.out);rintro e w12 ⟨rfl,hb⟩;refine ⟨_,rfl,?_⟩;replace BK1:=kb_ BK1 hb;replace HB:=a0_ (below_step hbw_ hb);(try clear hb);(try clear hb2);(try clear hk);(try clear hi)) | ((with_reducible refine gate_callee (f:=8) rfl ?_);refine goesL_ (some 21) rfl rfl Try.func8 (by kernel_rfl) rfl #[.slice A1 l1.length c1,.int .i64 t2] rfl lm_ ?_;(with_reducible refine (laws_szExitS.calls _ _ l1 t2 t3 _ ?side1 ?side2 A8.out).mono ?_);(case side1=>exact cc_ (Kd.C_below HR1.out HB.out));(case side2=>exact HC1.out);rintro e w' ⟨rfl,⟨nd,rfl⟩⟩;refine ⟨_,rfl,?_⟩))
   go_ret
   exact ⟨by first | rfl | (simp [errW_none,errW_some] <;> rfl) | (simp [*,errW_none,errW_some] <;> rfl),hbw_⟩
  ·rw [if_neg c9] at H
   have c9b0 : decide (t3 < 0) = false:=decide_eq_false c9
   clear c9
   replace H:=Option.bind_eq_some_iff.mp H
   obtain ⟨t4,A130,H⟩:=H
   try dsimp only at H
   have A13:=a0_ A130
   clear A130
   replace H:=Option.bind_eq_some_iff.mp H
   obtain ⟨t7,A140,H⟩:=H
   try dsimp only at H
   have A14:=a0_ A140
   clear A140
   replace H:=Option.bind_eq_some_iff.mp H
   obtain ⟨t10,A150,H⟩:=H
   try dsimp only at H
   have A15:=a0_ A150
   clear A150
   replace H:=Option.bind_eq_some_iff.mp H
   obtain ⟨t13,A160,H⟩:=H
   try dsimp only at H
   have A16:=a0_ A160
   clear A160
   replace H:=Option.bind_eq_some_iff.mp H
   obtain ⟨t17,A170,H⟩:=H
   try dsimp only at H
   have A17:=a0_ A170
   clear A170
   replace H:=Option.bind_eq_some_iff.mp H
   obtain ⟨t20,A180,H⟩:=H
   try dsimp only at H
   have A18:=a0_ A180
   clear A180
   replace H:=Option.bind_eq_some_iff.mp H
   obtain ⟨t23,A190,H⟩:=H
   try dsimp only at H
   have A19:=a0_ A190
   clear A190
   by_cases c20 : t23 = true
   ·subst c20
    have H1 : ((laws_toTree.f k l0_0).bind fun t24=>((laws_eqTree.f k t13 t24).bind fun t27=>(if t27 = true then ((laws_toExitS.f k l1).bind fun t28=>((laws_eqExitS.f k t17 t28).bind fun t31=>(if t31 = true then ((laws_markTree.f k t13 1).bind fun bt32=>((laws_markExitS.f k t17 bt32.1).bind fun bt34=>(if bt34.1 < 0 then (laws_FnExactEscapesOf.j0 k l1 t10 t20 true l0_0) else ((laws_eqIntS.f k t20 t10).bind fun t36=>(laws_FnExactEscapesOf.j0 k l1 t10 t20 (!t36) l0_0))))) else (some false)))) else (some false)))) = some r:=by rw [if_pos rfl] at H;exact H
    clear H
    have H:=H1
    clear H1
    replace H:=Option.bind_eq_some_iff.mp H
    obtain ⟨t24,A210,H⟩:=H
    try dsimp only at H
    have A21:=a0_ A210
    clear A210
    replace H:=Option.bind_eq_some_iff.mp H
    obtain ⟨t27,A220,H⟩:=H
    try dsimp only at H
    have A22:=a0_ A220
    clear A220
    by_cases c23 : t27 = true
    ·subst c23
     have H1 : ((laws_toExitS.f k l1).bind fun t28=>((laws_eqExitS.f k t17 t28).bind fun t31=>(if t31 = true then ((laws_markTree.f k t13 1).bind fun bt32=>((laws_markExitS.f k t17 bt32.1).bind fun bt34=>(if bt34.1 < 0 then (laws_FnExactEscapesOf.j0 k l1 t10 t20 true l0_0) else ((laws_eqIntS.f k t20 t10).bind fun t36=>(laws_FnExactEscapesOf.j0 k l1 t10 t20 (!t36) l0_0))))) else (some false)))) = some r:=by rw [if_pos rfl] at H;exact H
     clear H
     have H:=H1
     clear H1
     replace H:=Option.bind_eq_some_iff.mp H
     obtain ⟨t28,A240,H⟩:=H
     try dsimp only at H
     have A24:=a0_ A240
     clear A240
     replace H:=Option.bind_eq_some_iff.mp H
     obtain ⟨t31,A250,H⟩:=H
     try dsimp only at H
     have A25:=a0_ A250
     clear A250
     by_cases c26 : t31 = true
     ·subst c26
      have H1 : ((laws_markTree.f k t13 1).bind fun bt32=>((laws_markExitS.f k t17 bt32.1).bind fun bt34=>(if bt34.1 < 0 then (laws_FnExactEscapesOf.j0 k l1 t10 t20 true l0_0) else ((laws_eqIntS.f k t20 t10).bind fun t36=>(laws_FnExactEscapesOf.j0 k l1 t10 t20 (!t36) l0_0))))) = some r:=by rw [if_pos rfl] at H;exact H
      clear H
      have H:=H1
      clear H1
      replace H:=Option.bind_eq_some_iff.mp H
      obtain ⟨⟨t32,t33⟩,A270,H⟩:=H
      try dsimp only at H
      have A27:=a0_ A270
      clear A270
      replace H:=Option.bind_eq_some_iff.mp H
      obtain ⟨⟨t34,t35⟩,A280,H⟩:=H
      try dsimp only at H
      have A28:=a0_ A280
      clear A280
      have HC29:=a0_ H
      clear H
      go_enter Try.func6,Try.ntmps6
      try go_wp2_with (first | ((with_reducible refine gate_dst (N:=2) rfl ?_);refine box_event ?hg (N:=2) ?hd (cs:=#[.slice A0_0 l0_0.length c0_0]) (t:=24) ?hr ?_;(case hd=>rfl);(case hg=>rfl);(case hr=>first | (go_simp;done) | (go_simp;rfl));intro gb1 hg w30 hbox hb;have BK1:=a0_ (hbox);have GW1:=a0_ ((by rw [hg];exact (below_size hbw_) : w.heap.size ≤ gb1));have GE1:=a0_ ((by rw [hg];exact (below_size hbw_) : w.heap.size ≤ gb1));replace HB:=a0_ (below_step hbw_ hb);clear hb hbox hg;have hcz31_0 : w30.cell? ⟨gb1,0,none⟩ = some (.slice A0_0 l0_0.length c0_0):=(blk_cell BK1.out 0).trans rfl;have hfz31_0:=blk_frozen BK1.out 0) | ((with_reducible refine gate_callee (f:=7) rfl ?_);refine goesL_ (some 16) rfl rfl Try.func7 (by kernel_rfl) rfl #[.agg #[.slice A0_0 l0_0.length c0_0],.int .i64 1048576] rfl lm_ ?_;(with_reducible refine (laws_szTree.calls k _ _ l0_0 1048576 t2 _ ?side1 ?side2 A3.out).mono ?_);(case side1=>exact cc_ (Kd.C_below HR0_0.out HB.out));(case side2=>exact HC0_0.out);rintro e w32 ⟨rfl,hb⟩;refine ⟨_,rfl,?_⟩;replace BK1:=kb_ BK1 hb;replace HB:=a0_ (below_step hbw_ hb);(try clear hb);(try clear hb2);(try clear hk);(try clear hi)) | ((with_reducible refine gate_callee (f:=8) rfl ?_);refine goesL_ (some 21) rfl rfl Try.func8 (by kernel_rfl) rfl #[.slice A1 l1.length c1,.int .i64 t2] rfl lm_ ?_;(with_reducible refine (laws_szExitS.calls _ _ l1 t2 t3 _ ?side1 ?side2 A8.out).mono ?_);(case side1=>exact cc_ (Kd.C_below HR1.out HB.out));(case side2=>exact HC1.out);rintro e w' ⟨rfl,⟨nd,rfl⟩⟩;refine ⟨_,rfl,?_⟩;(try (rw [drewN_self w32];generalize hq_ : World.drewN w32 _ = w32;have n0_ : Aside0 (w32.heap[gb1]? = some (.cells #[.slice A0_0 l0_0.length c0_0] 24 (0,0))):=⟨by rw [← hq_];exact (bb_ BK1.out)⟩;have n1_ : Aside0 (Below w.heap.size w w32):=⟨by rw [← hq_];exact hbw_⟩;clear BK1 HB hq_;have BK1:=n0_;have HB:=n1_;clear n0_ n1_));have hcz33_0 : w32.cell? ⟨gb1,0,none⟩ = some (.slice A0_0 l0_0.length c0_0):=(blk_cell BK1.out 0).trans rfl;have hfz33_0:=blk_frozen BK1.out 0) | ((with_reducible refine gate_callee (f:=10) rfl ?_);refine goesL_ (some 25) rfl rfl Try.func10 (by kernel_rfl) rfl #[.agg #[.slice A0_0 l0_0.length c0_0]] rfl lm_ ?_;(with_reducible refine (laws_toTree.calls k _ _ l0_0 t4 _ ?side1 ?side2 A13.out).mono ?_);(case side1=>exact cc_ (Kd.C_below HR0_0.out HB.out));(case side2=>exact HC0_0.out);rintro e w34 ⟨v5,rfl,ho0,hb⟩;refine ⟨_,rfl,?_⟩;have HO6:=a0_ (Kd.R_lower ho0 (below_size hbw_));replace BK1:=kb_ BK1 hb;replace HB:=a0_ (below_step hbw_ hb);(try clear hb);(try clear ho0)) | ((with_reducible refine gate_callee (f:=11) rfl ?_);refine goesL_ (some 27) rfl rfl Try.func11 (by kernel_rfl) rfl #[.slice A1 l1.length c1] rfl lm_ ?_;(with_reducible refine (laws_toExitS.calls k _ _ l1 t7 _ ?side1 ?side2 A14.out).mono ?_);(case side1=>exact cc_ (Kd.C_below HR1.out HB.out));(case side2=>exact HC1.out);rintro e w35 ⟨v8,rfl,ho0,hb⟩;refine ⟨_,rfl,?_⟩;replace HO6:=rb_ HO6 hb;have HO9:=a0_ (Kd.R_lower ho0 (below_size hbw_));replace BK1:=kb_ BK1 hb;replace HB:=a0_ (below_step hbw_ hb);(try clear hb);(try clear ho0);obtain ⟨Ao36,co36,eo36⟩:=Kd.R_slice HO6.out;subst eo36;obtain ⟨Ao37,co37,eo37⟩:=Kd.R_slice HO9.out;subst eo37) | ((with_reducible refine gate_callee (f:=24) rfl ?_);refine goesL_ (some 28) rfl rfl Try.func24 (by kernel_rfl) rfl #[.agg #[.slice Ao36 t4.length co36],.slice Ao37 t7.length co37] rfl lm_ ?_;(with_reducible refine (spec_EscapesOf.calls k _ _ t4 _ _ t7 t10 _ ?side1 ?side2 ?side3 ?side4 A15.out).mono ?_);(case side1=>exact cc_ (Kd.R_reads' HO6.out).2.2);(case side2=>exact (Kd.R_reads' HO6.out).2.1);(case side3=>exact cc_ (Kd.R_reads' HO9.out).2.2);(case side4=>exact (Kd.R_reads' HO9.out).2.1);rintro e w38 ⟨v11,rfl,ho0,hb⟩;refine ⟨_,rfl,?_⟩;replace HO6:=rb_ HO6 hb;replace HO9:=rb_ HO9 hb;have HO12:=a0_ (Kd.R_lower ho0 (below_size hbw_));replace BK1:=kb_ BK1 hb;replace HB:=a0_ (below_step hbw_ hb);(try clear hb);(try clear ho0);have hcz39_0 : w38.cell? ⟨gb1,0,none⟩ = some (.slice A0_0 l0_0.length c0_0):=(blk_cell BK1.out 0).trans rfl;have hfz39_0:=blk_frozen BK1.out 0) | ((with_reducible refine gate_callee (f:=10) rfl ?_);refine goesL_ (some 30) rfl rfl Try.func10 (by kernel_rfl) rfl #[.agg #[.slice A0_0 l0_0.length c0_0]] rfl lm_ ?_;(with_reducible refine (laws_toTree.calls k _ _ l0_0 t13 _ ?side1 ?side2 A16.out).mono ?_);(case side1=>exact cc_ (Kd.C_below HR0_0.out HB.out));(case side2=>exact HC0_0.out);rintro e w40 ⟨v14,rfl,ho0,hb⟩;refine ⟨_,rfl,?_⟩;have n0_:=a0_ (Kd.R_elder' (rr_ HO6.out) (Kd.R_base ho0) hb);have n1_:=rb_ HO9 hb;have n2_:=rb_ HO12 hb;have n3_:=a0_ (Kd.R_lower (Kd.R_new' ho0 (Kd.R_lt (rr_ HO6.out))) (below_size hbw_));have n4_:=kb_ BK1 hb;have n5_:=a0_ (below_step hbw_ hb);clear HO6 HO9;clear HO12 BK1 HB;have HO6:=n0_;have HO9:=n1_;have HO12:=n2_;have HO15:=n3_;have BK1:=n4_;have HB:=n5_;clear n0_ n1_ n2_ n3_ n4_ n5_;(try clear hb);(try clear ho0)) | ((with_reducible refine gate_dst (N:=7) rfl ?_);refine box_event ?hg (N:=7) ?hd (cs:=#[.slice none 0 0]) (t:=35) ?hr ?_;(case hd=>rfl);(case hg=>rfl);(case hr=>first | (go_simp;done) | (go_simp;rfl));intro gb16 hg w41 hbox hb;have n0_:=rb_ HO6 hb;have n1_:=rb_ HO9 hb;have n2_:=rb_ HO12 hb;have n3_:=rb_ HO15 hb;have n4_:=kb_ BK1 hb;have n5_:=a0_ (below_step hbw_ hb);have n6_:=a0_ (hbox);have n7_:=a0_ ((by rw [hg];exact (below_size hbw_) : w.heap.size ≤ gb16));have n8_:=a0_ ((by rw [hg];exact (below_size hbw_) : w.heap.size ≤ gb16));have n9_:=a0_ ((by rw [hg];exact Nat.ne_of_lt (blk_lt (bb_ BK1.out)) : gb1 ≠ gb16));have n10_:=a0_ ((by rw [hg];exact Nat.ne_of_gt (blk_lt (bb_ BK1.out)) : gb16 ≠ gb1));clear HO6 HO9;clear HO12 HO15;clear BK1 HB;have HO6:=n0_;have HO9:=n1_;have HO12:=n2_;have HO15:=n3_;have BK1:=n4_;have HB:=n5_;have BK16:=n6_;have GW16:=n7_;have GE16:=n8_;have NB1_16:=n9_;have NB16_1:=n10_;clear n0_ n1_ n2_ n3_ n4_ n5_ n6_ n7_ n8_ n9_ n10_;clear hb hbox hg;obtain ⟨Ao42,co42,eo42⟩:=Kd.R_slice HO15.out;subst eo42;have hnb43:=NB16_1.out;have hnc43:=NB1_16.out;have hcz44_0 : w41.cell? ⟨gb16,0,none⟩ = some (.slice none 0 0):=(blk_cell BK16.out 0).trans rfl;have hfz44_0:=blk_frozen BK16.out 0) | ((with_reducible refine gate_callee (f:=11) rfl ?_);refine goesL_ (some 32) rfl rfl Try.func11 (by kernel_rfl) rfl #[.slice A1 l1.length c1] rfl lm_ ?_;(with_reducible refine (laws_toExitS.calls k _ _ l1 t17 _ ?side1 ?side2 A17.out).mono ?_);(case side1=>exact Kd.C_below HR1.out hbw_);(case side2=>exact HC1.out);rintro e w45 ⟨v18,rfl,ho0,hb⟩;refine ⟨_,rfl,?_⟩;have n0_:=a0_ (Kd.R_below (by (with_reducible repeat (first | apply Kd.R_alloc | apply Kd.R_drewN | apply Kd.R_drew));exact (Kd.R_mono (Kd.R_far (p:=⟨gb16,0,none⟩) (Kd.R_types HO6.out BK16.out (by decide)) (fun _ hk=>hk.2) (.slice Ao42 t13.length co42)) (fun _ h_=>h_.1))) hb);have n1_:=a0_ (Kd.R_elder' (by (with_reducible repeat (first | apply Kd.R_alloc | apply Kd.R_drewN | apply Kd.R_drew));exact (Kd.R_mono (Kd.R_far (p:=⟨gb16,0,none⟩) (Kd.R_types HO9.out BK16.out (by decide)) (fun _ hk=>hk.2) (.slice Ao42 t13.length co42)) (fun _ h_=>h_.1))) (Kd.R_base ho0) hb);have n2_:=a0_ (Kd.R_below (by (with_reducible repeat (first | apply Kd.R_alloc | apply Kd.R_drewN | apply Kd.R_drew));exact (Kd.R_mono (Kd.R_far (p:=⟨gb16,0,none⟩) (Kd.R_types HO12.out BK16.out (by decide)) (fun _ hk=>hk.2) (.slice Ao42 t13.length co42)) (fun _ h_=>h_.1))) hb);have n3_:=a0_ (Kd.R_below (by (with_reducible repeat (first | apply Kd.R_alloc | apply Kd.R_drewN | apply Kd.R_drew));exact (Kd.R_mono (Kd.R_far (p:=⟨gb16,0,none⟩) (Kd.R_types HO15.out BK16.out (by decide)) (fun _ hk=>hk.2) (.slice Ao42 t13.length co42)) (fun _ h_=>h_.1))) hb);have n4_:=a0_ (Kd.R_lower (Kd.R_new' ho0 (Kd.R_lt (by (with_reducible repeat (first | apply Kd.R_alloc | apply Kd.R_drewN | apply Kd.R_drew));exact (Kd.R_mono (Kd.R_far (p:=⟨gb16,0,none⟩) (Kd.R_types HO9.out BK16.out (by decide)) (fun _ hk=>hk.2) (.slice Ao42 t13.length co42)) (fun _ h_=>h_.1))))) (below_size hbw_));have n5_:=kf_ BK1 NB1_16 hb;have n6_:=a0_ (blk_below (g:=gb16) (o:=.cells #[.slice Ao42 t13.length co42] 35 (0,0)) (by (with_reducible repeat (first | refine blk_drewN ?_ _ | refine blk_drew ?_ | refine blk_alloc ?_ _));refine blk_put (cs:=#[.slice none 0 0]) ?_ 0 _ rfl;(with_reducible repeat (first | refine blk_drewN ?_ _ | refine blk_drew ?_ | refine blk_alloc ?_ _));exact BK16.out) hb);have n7_:=a0_ (below_step hbw_ hb);clear HO6 HO9;clear HO12 HO15;clear BK1 BK16 HB;have HO6:=n0_;have HO9:=n1_;have HO12:=n2_;have HO15:=n3_;have HO19:=n4_;have BK1:=n5_;have BK16:=n6_;have HB:=n7_;clear n0_ n1_ n2_ n3_ n4_ n5_ n6_ n7_;(try clear hb);(try clear ho0);have hcz46_0 : w45.cell? ⟨gb16,0,none⟩ = some (.slice Ao42 t13.length co42):=(blk_cell BK16.out 0).trans rfl;have hfz46_0:=blk_frozen BK16.out 0;obtain ⟨Ao47,co47,eo47⟩:=Kd.R_slice HO19.out;subst eo47) | ((with_reducible refine gate_callee (f:=25) rfl ?_);refine goesL_ (some 35) rfl rfl Try.func25 (by kernel_rfl) rfl #[.agg #[.slice Ao42 t13.length co42],.slice Ao47 t17.length co47] rfl lm_ ?_;(with_reducible refine (impl_EscapesOf.calls _ _ t13 _ _ t17 t20 _ ?side1 ?side2 ?side3 ?side4 A18.out).mono ?_);(case side1=>exact cc_ (Kd.R_reads' HO15.out).2.2);(case side2=>exact (Kd.R_reads' HO15.out).2.1);(case side3=>exact cc_ (Kd.R_reads' HO19.out).2.2);(case side4=>exact (Kd.R_reads' HO19.out).2.1);rintro e w48 ⟨v21,rfl,ho0,hb⟩;refine ⟨_,rfl,?_⟩;have n0_:=rb_ HO6 hb;have n1_:=rb_ HO9 hb;have n2_:=a0_ (Kd.R_elder' (rr_ HO12.out) (Kd.R_base ho0) hb);have n3_:=rb_ HO15 hb;have n4_:=rb_ HO19 hb;have n5_:=a0_ (Kd.R_lower (Kd.R_new' ho0 (Kd.R_lt (rr_ HO12.out))) (below_size hbw_));have n6_:=kb_ BK1 hb;have n7_:=kb_ BK16 hb;have n8_:=a0_ (below_step hbw_ hb);clear HO6 HO9;clear HO12 HO15;clear HO19 BK1;clear BK16 HB;have HO6:=n0_;have HO9:=n1_;have HO12:=n2_;have HO15:=n3_;have HO19:=n4_;have HO22:=n5_;have BK1:=n6_;have BK16:=n7_;have HB:=n8_;clear n0_ n1_ n2_ n3_ n4_ n5_ n6_ n7_ n8_;(try clear hb);(try clear ho0);obtain ⟨Ao49,co49,eo49⟩:=Kd.R_slice HO22.out;subst eo49;obtain ⟨Ao50,co50,eo50⟩:=Kd.R_slice HO12.out;subst eo50) | ((with_reducible refine gate_callee (f:=26) rfl ?_);refine goesL_ (some 38) rfl rfl Try.func26 (by kernel_rfl) rfl #[.slice Ao49 t20.length co49,.slice Ao50 t10.length co50] rfl lm_ ?_;(with_reducible refine (laws_eqIntS.calls k _ _ t20 _ _ t10 true _ ?side1 ?side2 ?side3 ?side4 A19.out).mono ?_);(case side1=>exact cc_ (Kd.R_reads' HO22.out).2.2);(case side2=>exact (Kd.R_reads' HO22.out).2.1);(case side3=>exact cc_ (Kd.R_reads' HO12.out).2.2);(case side4=>exact (Kd.R_reads' HO12.out).2.1);rintro e w' ⟨rfl,⟨nd,rfl⟩⟩;refine ⟨_,rfl,?_⟩))
      (try (rw [drewN_self w48];generalize hq_ : World.drewN w48 _ = w48;have n0_ : Aside0 (Kd.R (Kd.int .i64) 3 w48 w.heap.size (fun k_=>(True ∧ some k_ ≠ (.slice Ao49 t20.length co49 : Value).ownBlock)) (.slice Ao50 t10.length co50) t10):=⟨by rw [← hq_];exact (rr_ HO12.out)⟩;have n1_ : Aside0 (Kd.R k76 76 w48 w.heap.size (fun k_=>(True ∧ some k_ ≠ (.slice Ao36 t4.length co36 : Value).ownBlock)) (.slice Ao42 t13.length co42) t13):=⟨by rw [← hq_];exact (rr_ HO15.out)⟩;have n2_ : Aside0 (Kd.R k38 38 w48 w.heap.size (fun k_=>(True ∧ some k_ ≠ (.slice Ao37 t7.length co37 : Value).ownBlock)) (.slice Ao47 t17.length co47) t17):=⟨by rw [← hq_];exact (rr_ HO19.out)⟩;have n3_ : Aside0 (Kd.R (Kd.int .i64) 3 w48 w.heap.size (fun k_=>(True ∧ some k_ ≠ (.slice Ao50 t10.length co50 : Value).ownBlock)) (.slice Ao49 t20.length co49) t20):=⟨by rw [← hq_];exact (rr_ HO22.out)⟩;have n4_ : Aside0 (Kd.R k76 76 w48 w.heap.size (fun k_=>(True ∧ some k_ ≠ (.slice Ao42 t13.length co42 : Value).ownBlock)) (.slice Ao36 t4.length co36) t4):=⟨by rw [← hq_];exact (rr_ HO6.out)⟩;have n5_ : Aside0 (Kd.R k38 38 w48 w.heap.size (fun k_=>(True ∧ some k_ ≠ (.slice Ao47 t17.length co47 : Value).ownBlock)) (.slice Ao37 t7.length co37) t7):=⟨by rw [← hq_];exact (rr_ HO9.out)⟩;have n6_ : Aside0 (w48.heap[gb1]? = some (.cells #[.slice A0_0 l0_0.length c0_0] 24 (0,0))):=⟨by rw [← hq_];exact (bb_ BK1.out)⟩;have n7_ : Aside0 (w48.heap[gb16]? = some (.cells #[.slice Ao42 t13.length co42] 35 (0,0))):=⟨by rw [← hq_];exact (bb_ BK16.out)⟩;have n8_ : Aside0 (Below w.heap.size w w48):=⟨by rw [← hq_];exact hbw_⟩;clear HO12 HO15 HO19 HO22 HO6 HO9 BK1 BK16 HB hq_;have HO12:=n0_;have HO15:=n1_;have HO19:=n2_;have HO22:=n3_;have HO6:=n4_;have HO9:=n5_;have BK1:=n6_;have BK16:=n7_;have HB:=n8_;clear n0_ n1_ n2_ n3_ n4_ n5_ n6_ n7_ n8_))
      have n0_:=a0_ (Kd.R_drew HO6.out)
      have n1_:=a0_ (Kd.R_drew HO9.out)
      have n2_:=a0_ (Kd.R_drew HO12.out)
      have n3_:=a0_ (Kd.R_drew HO15.out)
      have n4_:=a0_ (Kd.R_drew HO19.out)
      have n5_:=a0_ (Kd.R_drew HO22.out)
      have n6_:=a0_ (blk_drew BK1.out)
      have n7_:=a0_ (blk_drew BK16.out)
      have n8_:=a0_ (below_drew1 HB.out)
      clear HO6
      clear HO9
      clear HO12
      clear HO15
      clear HO19
      clear HO22
      clear BK1
      clear BK16
      clear HB
      have HO6:=n0_
      have HO9:=n1_
      have HO12:=n2_
      have HO15:=n3_
      have HO19:=n4_
      have HO22:=n5_
      have BK1:=n6_
      have BK16:=n7_
      have HB:=n8_
      clear n0_ n1_ n2_ n3_ n4_ n5_ n6_ n7_ n8_
      refine start_ (n:=5) (S:=fun w'=>w'.cell? ⟨gb16,0,none⟩ = some (.slice Ao42 t13.length co42) ∧ w'.cell? ⟨gb1,0,none⟩ = some (.slice A0_0 l0_0.length c0_0)) (ds:=[]) #[false,false,false,false,false] (by kernel_rfl) rfl rfl ⟨(blk_cell BK16.out 0).trans rfl,(blk_cell BK1.out 0).trans rfl⟩ (fun hHeld=>?_)
      generalize w48.drew = w51 at HO6 HO9 HO12 HO15 HO19 HO22 BK1 BK16 HB hHeld ⊢
      refine take_ (i:=0) (N:=some 40) (v:=?_) (a':=?_) #[true,false,false,false,false] rfl rfl (by kernel_rfl) (fun _ _ _ h=>h) (Or.inl ⟨by rfl,?_⟩) hHeld ?_ ?_
      rotate_left
      ·rintro w' ⟨s0,s1⟩
       go_simp
       with_reducible rfl
      rotate_left
      ·simp only [Act.put,s1_,s2_,s3_,i64_w,i32_w]
       rfl
      refine take_ (i:=1) (N:=some 41) (v:=?_) (a':=?_) #[true,true,false,false,false] rfl rfl (by kernel_rfl) (fun _ _ _ h=>h) (Or.inl ⟨by rfl,?_⟩) hHeld ?_ ?_
      rotate_left
      ·rintro w' ⟨s0,s1⟩
       go_simp
       with_reducible rfl
      rotate_left
      ·simp only [Act.put,s1_,s2_,s3_,i64_w,i32_w]
       rfl
      refine one_ (i:=2) (N:=some 42) #[true,true,true,false,false] rfl rfl (by kernel_rfl) (by decide) (fun K hK=>?_)
      refine goes_ Try.func10 (by kernel_rfl) rfl #[.agg #[.slice A0_0 l0_0.length c0_0]] (by rfl) rfl rfl lm_ ?_
      with_reducible refine (laws_toTree.calls k _ _ l0_0 t24 _ ?side1 ?side2 A21.out).mono ?_
      (case side1=>exact cc_ (Kd.C_below HR0_0.out HB.out))
      (case side2=>exact HC0_0.out)
      rintro e w52 ⟨v25,rfl,ho0,hb⟩
      refine ⟨_,rfl,?_⟩
      have n0_:=a0_ (Kd.R_elder' (rr_ HO6.out) (Kd.R_base ho0) hb)
      have n1_:=rb_ HO9 hb
      have n2_:=rb_ HO12 hb
      have n3_:=a0_ (Kd.R_elder' (rr_ HO15.out) (Kd.R_base ho0) hb)
      have n4_:=rb_ HO19 hb
      have n5_:=rb_ HO22 hb
      have n6_:=a0_ (Kd.R_lower (Kd.R_new' (Kd.R_new' ho0 (Kd.R_lt (rr_ HO6.out))) (Kd.R_lt (rr_ HO15.out))) (below_size hbw_))
      have n7_:=kb_ BK1 hb
      have n8_:=kb_ BK16 hb
      have n9_:=a0_ (below_step hbw_ hb)
      clear HO6
      clear HO9
      clear HO12
      clear HO15
      clear HO19
      clear HO22
      clear BK1
      clear BK16
      clear HB
      have HO6:=n0_
      have HO9:=n1_
      have HO12:=n2_
      have HO15:=n3_
      have HO19:=n4_
      have HO22:=n5_
      have HO26:=n6_
      have BK1:=n7_
      have BK16:=n8_
      have HB:=n9_
      clear n0_ n1_ n2_ n3_ n4_ n5_ n6_ n7_ n8_ n9_
      (try clear hb)
      (try clear hb2)
      (try clear hk)
      (try clear hi)
      (try clear ho0)
      obtain ⟨Ao53,co53,eo53⟩:=Kd.R_slice HO26.out
      (first | subst eo53 | (injection eo53 with f1_ f2_ f3_;have f4_:=f1_.symm;have f5_:=f3_.symm;clear f1_ f2_ f3_;subst f4_;subst f5_))
      refine hK.out _ _ ⟨(blk_cell BK16.out 0).trans rfl,(blk_cell BK1.out 0).trans rfl⟩ (fun hHeld=>?_)
      clear hK K
      refine norm_ (a':=?_) ?_ ?_
      rotate_left
      ·show Act.put _ (some 42) _ = _
       simp only [Act.put,s1_,s2_,s3_,i64_w,i32_w]
       rfl
      refine one_ (i:=3) (N:=some 43) #[true,true,true,true,false] rfl rfl (by kernel_rfl) (by decide) (fun K hK=>?_)
      refine goes_ Try.func15 (by kernel_rfl) rfl #[.agg #[.slice Ao42 t13.length co42],.agg #[.slice Ao53 t24.length co53]] (by rfl) rfl rfl lm_ ?_
      with_reducible refine (laws_eqTree.calls k _ _ t13 _ _ t24 true _ ?side1 ?side2 ?side3 ?side4 A22.out).mono ?_
      (case side1=>exact cc_ (Kd.R_reads' HO15.out).2.2)
      (case side2=>exact (Kd.R_reads' HO15.out).2.1)
      (case side3=>exact cc_ (Kd.R_reads' HO26.out).2.2)
      (case side4=>exact (Kd.R_reads' HO26.out).2.1)
      rintro e w54 ⟨rfl,hb⟩
      refine ⟨_,rfl,?_⟩
      have n0_:=rb_ HO6 hb
      have n1_:=rb_ HO9 hb
      have n2_:=rb_ HO12 hb
      have n3_:=rb_ HO15 hb
      have n4_:=rb_ HO19 hb
      have n5_:=rb_ HO22 hb
      have n6_:=rb_ HO26 hb
      have n7_:=kb_ BK1 hb
      have n8_:=kb_ BK16 hb
      have n9_:=a0_ (below_step hbw_ hb)
      clear HO6
      clear HO9
      clear HO12
      clear HO15
      clear HO19
      clear HO22
      clear HO26
      clear BK1
      clear BK16
      clear HB
      have HO6:=n0_
      have HO9:=n1_
      have HO12:=n2_
      have HO15:=n3_
      have HO19:=n4_
      have HO22:=n5_
      have HO26:=n6_
      have BK1:=n7_
      have BK16:=n8_
      have HB:=n9_
      clear n0_ n1_ n2_ n3_ n4_ n5_ n6_ n7_ n8_ n9_
      (try clear hb)
      (try clear hb2)
      (try clear hk)
      (try clear hi)
      refine hK.out _ _ ⟨(blk_cell BK16.out 0).trans rfl,(blk_cell BK1.out 0).trans rfl⟩ (fun hHeld=>?_)
      clear hK K
      refine norm_ (a':=?_) ?_ ?_
      rotate_left
      ·show Act.put _ (some 43) _ = _
       simp only [Act.put,s1_,s2_,s3_,i64_w,i32_w]
       rfl
      refine pure_ (i:=4) (N:=some 44) (v:=?_) (a':=?_) #[true,true,true,true,true] rfl rfl (by kernel_rfl) (fun _ _ _ h=>h) (Or.inl ⟨by rfl,?_⟩) ?_ ?_
      rotate_left
      ·intro w'
       go_simp
       with_reducible rfl
      rotate_left
      ·simp only [Act.put,s1_,s2_,s3_,i64_w,i32_w]
       rfl
      refine done_ (by kernel_rfl) ?_
      go_upto_region 21 with (first | ((with_reducible refine gate_callee (f:=11) rfl ?_);refine goesL_ (some 47) rfl rfl Try.func11 (by kernel_rfl) rfl #[.slice A1 l1.length c1] rfl lm_ ?_;(with_reducible refine (laws_toExitS.calls k _ _ l1 t28 _ ?side1 ?side2 A24.out).mono ?_);(case side1=>exact cc_ (Kd.C_below HR1.out HB.out));(case side2=>exact HC1.out);rintro e w55 ⟨v29,rfl,ho0,hb⟩;refine ⟨_,rfl,?_⟩;have n0_:=rb_ HO6 hb;have n1_:=a0_ (Kd.R_elder' (rr_ HO9.out) (Kd.R_base ho0) hb);have n2_:=rb_ HO12 hb;have n3_:=rb_ HO15 hb;have n4_:=a0_ (Kd.R_elder' (rr_ HO19.out) (Kd.R_base ho0) hb);have n5_:=rb_ HO22 hb;have n6_:=rb_ HO26 hb;have n7_:=a0_ (Kd.R_lower (Kd.R_new' (Kd.R_new' ho0 (Kd.R_lt (rr_ HO9.out))) (Kd.R_lt (rr_ HO19.out))) (below_size hbw_));have n8_:=kb_ BK1 hb;have n9_:=kb_ BK16 hb;have n10_:=a0_ (below_step hbw_ hb);clear HO6 HO9;clear HO12 HO15;clear HO19 HO22;clear HO26 BK1;clear BK16 HB;have HO6:=n0_;have HO9:=n1_;have HO12:=n2_;have HO15:=n3_;have HO19:=n4_;have HO22:=n5_;have HO26:=n6_;have HO30:=n7_;have BK1:=n8_;have BK16:=n9_;have HB:=n10_;clear n0_ n1_ n2_ n3_ n4_ n5_ n6_ n7_ n8_ n9_ n10_;(try clear hb);(try clear ho0);obtain ⟨Ao56,co56,eo56⟩:=Kd.R_slice HO30.out;subst eo56) | ((with_reducible refine gate_callee (f:=14) rfl ?_);refine goesL_ (some 48) rfl rfl Try.func14 (by kernel_rfl) rfl #[.slice Ao47 t17.length co47,.slice Ao56 t28.length co56] rfl lm_ ?_;(with_reducible refine (laws_eqExitS.calls k _ _ t17 _ _ t28 true _ ?side1 ?side2 ?side3 ?side4 A25.out).mono ?_);(case side1=>exact cc_ (Kd.R_reads' HO19.out).2.2);(case side2=>exact (Kd.R_reads' HO19.out).2.1);(case side3=>exact cc_ (Kd.R_reads' HO30.out).2.2);(case side4=>exact (Kd.R_reads' HO30.out).2.1);rintro e w57 ⟨rfl,hb⟩;refine ⟨_,rfl,?_⟩;replace HO6:=rb_ HO6 hb;replace HO9:=rb_ HO9 hb;replace HO12:=rb_ HO12 hb;replace HO15:=rb_ HO15 hb;replace HO19:=rb_ HO19 hb;replace HO22:=rb_ HO22 hb;replace HO26:=rb_ HO26 hb;replace HO30:=rb_ HO30 hb;replace BK1:=kb_ BK1 hb;replace BK16:=kb_ BK16 hb;replace HB:=a0_ (below_step hbw_ hb);(try clear hb);have hcz58_0 : w57.cell? ⟨gb16,0,none⟩ = some (.slice Ao42 t13.length co42):=(blk_cell BK16.out 0).trans rfl;have hfz58_0:=blk_frozen BK16.out 0) | ((with_reducible refine gate_callee (f:=16) rfl ?_);refine goesL_ (some 52) rfl rfl Try.func16 (by kernel_rfl) rfl #[.agg #[.slice Ao42 t13.length co42],.int .i64 1] rfl lm_ ?_;(with_reducible refine (laws_markTree.calls k (fun k_=>some k_ = (.slice Ao42 t13.length co42 : Value).ownBlock) (.slice Ao42 t13.length co42) t13 1 t32 t33 w _ ?side1 ?side2 A27.out).mono ?_);(case side1=>exact hbw_);(case side2=>exact Kd.R_tight rfl HO15.out);rintro e w59 ⟨rfl,hy0,hb,hkp⟩;refine ⟨_,rfl,?_⟩;have n0_:=a0_ (blk_kept (bb_ BK1.out) hkp (fun hs_=>(fun e_=>(Kd.R_ne HO15.out BK1.out (by decide)) e_) hs_));have n1_:=a0_ (Kd.R_mono (ok':=fun k_=>some k_ ≠ (.slice Ao42 t13.length co42 : Value).ownBlock ∧ some k_ ≠ (.slice Ao53 t24.length co53 : Value).ownBlock) (Kd.R_keptB (HO6.out) hkp (fun k_ hk_ hs_=>(hk_.1.2) hs_)) (fun k_ hk_=>⟨hk_.1.1.2,hk_.1.2⟩));have n2_:=a0_ (Kd.R_mono (ok':=fun k_=>some k_ ≠ (.slice Ao47 t17.length co47 : Value).ownBlock ∧ some k_ ≠ (.slice Ao56 t28.length co56 : Value).ownBlock) (Kd.R_keptB ((Kd.R_apart' HO9.out (Kd.R_typed HO15.out) (by decide))) hkp (fun k_ hk_ hs_=>(hk_.2) hs_)) (fun k_ hk_=>⟨hk_.1.1.1.2,hk_.1.1.2⟩));have n3_:=a0_ (Kd.R_mono (ok':=fun k_=>some k_ ≠ (.slice Ao49 t20.length co49 : Value).ownBlock) (Kd.R_keptB ((Kd.R_apart' HO12.out (Kd.R_typed HO15.out) (by decide))) hkp (fun k_ hk_ hs_=>(hk_.2) hs_)) (fun k_ hk_=>hk_.1.1.2));have n4_:=a0_ (Kd.R_reok rfl hy0 (fun k_ e_=>HO15.out.1 k_ e_));have n5_:=a0_ (blk_kept (bb_ BK16.out) hkp (fun hs_=>(fun e_=>(Kd.R_ne HO15.out BK16.out (by decide)) e_) hs_));have n6_:=a0_ (Kd.R_mono (ok':=fun k_=>some k_ ≠ (.slice Ao37 t7.length co37 : Value).ownBlock ∧ some k_ ≠ (.slice Ao56 t28.length co56 : Value).ownBlock) (Kd.R_keptB ((Kd.R_apart' HO19.out (Kd.R_typed HO15.out) (by decide))) hkp (fun k_ hk_ hs_=>(hk_.2) hs_)) (fun k_ hk_=>⟨hk_.1.1.1.2,hk_.1.1.2⟩));have n7_:=a0_ (Kd.R_mono (ok':=fun k_=>some k_ ≠ (.slice Ao50 t10.length co50 : Value).ownBlock) (Kd.R_keptB ((Kd.R_apart' HO22.out (Kd.R_typed HO15.out) (by decide))) hkp (fun k_ hk_ hs_=>(hk_.2) hs_)) (fun k_ hk_=>hk_.1.1.2));have n8_:=a0_ (Kd.R_mono (ok':=fun k_=>some k_ ≠ (.slice Ao36 t4.length co36 : Value).ownBlock ∧ some k_ ≠ (.slice Ao42 t13.length co42 : Value).ownBlock) (Kd.R_keptB (HO26.out) hkp (fun k_ hk_ hs_=>(hk_.2) hs_)) (fun k_ hk_=>⟨hk_.1.1.2,hk_.1.2⟩));have n9_:=a0_ (Kd.R_mono (ok':=fun k_=>some k_ ≠ (.slice Ao37 t7.length co37 : Value).ownBlock ∧ some k_ ≠ (.slice Ao47 t17.length co47 : Value).ownBlock) (Kd.R_keptB ((Kd.R_apart' HO30.out (Kd.R_typed HO15.out) (by decide))) hkp (fun k_ hk_ hs_=>(hk_.2) hs_)) (fun k_ hk_=>⟨hk_.1.1.1.2,hk_.1.1.2⟩));have n10_:=a0_ (hb);clear BK1 HO6;clear HO9 HO12;clear HO15 BK16;clear HO19 HO22;clear HO26 HO30 HB;have BK1:=n0_;have HO6:=n1_;have HO9:=n2_;have HO12:=n3_;have HO15:=n4_;have BK16:=n5_;have HO19:=n6_;have HO22:=n7_;have HO26:=n8_;have HO30:=n9_;have HB:=n10_;clear n0_ n1_ n2_ n3_ n4_ n5_ n6_ n7_ n8_ n9_ n10_;(try clear hb);(try clear hkp);(try clear hy0)) | ((with_reducible refine gate_callee (f:=17) rfl ?_);refine goesL_ (some 55) rfl rfl Try.func17 (by kernel_rfl) rfl #[.slice Ao47 t17.length co47,.int .i64 t32] rfl lm_ ?_;(with_reducible refine (laws_markExitS.calls k (fun k_=>some k_ = (.slice Ao47 t17.length co47 : Value).ownBlock) (.slice Ao47 t17.length co47) t17 t32 t34 t35 w _ ?side1 ?side2 A28.out).mono ?_);(case side1=>exact hbw_);(case side2=>exact Kd.R_tight rfl HO19.out);rintro e w60 ⟨rfl,hy0,hb,hkp⟩;refine ⟨_,rfl,?_⟩;have n0_:=a0_ (blk_kept (bb_ BK1.out) hkp (fun hs_=>(fun e_=>(Kd.R_ne HO19.out BK1.out (by decide)) e_) hs_));have n1_:=a0_ (Kd.R_mono (ok':=fun k_=>some k_ ≠ (.slice Ao42 t13.length co42 : Value).ownBlock ∧ some k_ ≠ (.slice Ao53 t24.length co53 : Value).ownBlock) (Kd.R_keptB ((Kd.R_apart' HO6.out (Kd.R_typed HO19.out) (by decide))) hkp (fun k_ hk_ hs_=>(hk_.2) hs_)) (fun k_ hk_=>⟨hk_.1.1.1,hk_.1.1.2⟩));have n2_:=a0_ (Kd.R_mono (ok':=fun k_=>some k_ ≠ (.slice Ao47 t17.length co47 : Value).ownBlock ∧ some k_ ≠ (.slice Ao56 t28.length co56 : Value).ownBlock) (Kd.R_keptB (HO9.out) hkp (fun k_ hk_ hs_=>(hk_.1) hs_)) (fun k_ hk_=>⟨hk_.1.1,hk_.1.2⟩));have n3_:=a0_ (Kd.R_mono (ok':=fun k_=>some k_ ≠ (.slice Ao49 t20.length co49 : Value).ownBlock) (Kd.R_keptB ((Kd.R_apart' HO12.out (Kd.R_typed HO19.out) (by decide))) hkp (fun k_ hk_ hs_=>(hk_.2) hs_)) (fun k_ hk_=>hk_.1.1));have n4_:=a0_ (Kd.R_mono (ok':=fun k_=>some k_ ≠ (.slice Ao36 t4.length co36 : Value).ownBlock ∧ some k_ ≠ (.slice Ao53 t24.length co53 : Value).ownBlock) (Kd.R_keptB ((Kd.R_apart' HO15.out (Kd.R_typed HO19.out) (by decide))) hkp (fun k_ hk_ hs_=>(hk_.2) hs_)) (fun k_ hk_=>⟨hk_.1.1.1.2,hk_.1.1.2⟩));have n5_:=a0_ (blk_kept (bb_ BK16.out) hkp (fun hs_=>(fun e_=>(Kd.R_ne HO19.out BK16.out (by decide)) e_) hs_));have n6_:=a0_ (Kd.R_reok rfl hy0 (fun k_ e_=>HO19.out.1 k_ e_));have n7_:=a0_ (Kd.R_mono (ok':=fun k_=>some k_ ≠ (.slice Ao50 t10.length co50 : Value).ownBlock) (Kd.R_keptB ((Kd.R_apart' HO22.out (Kd.R_typed HO19.out) (by decide))) hkp (fun k_ hk_ hs_=>(hk_.2) hs_)) (fun k_ hk_=>hk_.1.1));have n8_:=a0_ (Kd.R_mono (ok':=fun k_=>some k_ ≠ (.slice Ao36 t4.length co36 : Value).ownBlock ∧ some k_ ≠ (.slice Ao42 t13.length co42 : Value).ownBlock) (Kd.R_keptB ((Kd.R_apart' HO26.out (Kd.R_typed HO19.out) (by decide))) hkp (fun k_ hk_ hs_=>(hk_.2) hs_)) (fun k_ hk_=>⟨hk_.1.1.1,hk_.1.1.2⟩));have n9_:=a0_ (Kd.R_mono (ok':=fun k_=>some k_ ≠ (.slice Ao37 t7.length co37 : Value).ownBlock ∧ some k_ ≠ (.slice Ao47 t17.length co47 : Value).ownBlock) (Kd.R_keptB (HO30.out) hkp (fun k_ hk_ hs_=>(hk_.2) hs_)) (fun k_ hk_=>⟨hk_.1.1,hk_.1.2⟩));have n10_:=a0_ (hb);clear BK1 HO6;clear HO9 HO12;clear HO15 BK16;clear HO19 HO22;clear HO26 HO30 HB;have BK1:=n0_;have HO6:=n1_;have HO9:=n2_;have HO12:=n3_;have HO15:=n4_;have BK16:=n5_;have HO19:=n6_;have HO22:=n7_;have HO26:=n8_;have HO30:=n9_;have HB:=n10_;clear n0_ n1_ n2_ n3_ n4_ n5_ n6_ n7_ n8_ n9_ n10_;(try clear hb);(try clear hkp);(try clear hy0)))
      (try simp only [Act.put,s1_,s2_,s3_])
      go_cut [63] (fun v63 wc=>∃ (kq : Nat) (x63_28 : Bool),v63 = .bool x63_28 ∧ Aside0 (laws_FnExactEscapesOf.j0 kq l1 t10 t20 x63_28 l0_0 = some r) ∧ Aside0 (kq ≤ k) ∧ Aside0 (Kd.R (Kd.int .i64) 3 wc w.heap.size (fun k_=>some k_ ≠ ((.slice Ao49 t20.length co49) : Value).ownBlock) (.slice Ao50 t10.length co50) t10) ∧ Aside0 (Kd.R (Kd.int .i64) 3 wc w.heap.size (fun k_=>some k_ ≠ ((.slice Ao50 t10.length co50) : Value).ownBlock) (.slice Ao49 t20.length co49) t20) ∧ Aside0 (Kd.R k76 76 wc w.heap.size (fun _=>True) (.slice Ao42 t13.length co42) t33) ∧ Aside0 (wc.heap[gb1]? = some (.cells #[(.slice A0_0 l0_0.length c0_0)] 24 (0,0))) ∧ Aside0 (wc.heap[gb16]? = some (.cells #[(.slice Ao42 t13.length co42)] 35 (0,0))) ∧ Aside0 (Below w.heap.size w wc))
      case first =>
       have H:=HC29.out
       clear HC29
       by_cases c61 : t34 < 0
       ·rw [if_pos c61] at H
        have c61b0 : decide (t34 < 0) = true:=decide_eq_true c61
        clear c61
        (first | rw [c61b0] | (simp only [i64_w,i32_w];rw [c61b0]) | skip)
        have H':=a0_ H
        clear H
        go_wp2
        go_meet
        case rel=>exact ⟨_,(true),(by first | rfl | (simp;done) | (simp [*];done)),H',⟨by first | omega | exact Nat.le_refl _⟩,⟨by (with_reducible repeat (first | apply Kd.R_alloc | apply Kd.R_drewN | apply Kd.R_drew));exact HO12.out⟩,⟨by (with_reducible repeat (first | apply Kd.R_alloc | apply Kd.R_drewN | apply Kd.R_drew));exact HO22.out⟩,⟨by (with_reducible repeat (first | apply Kd.R_alloc | apply Kd.R_drewN | apply Kd.R_drew));exact Kd.R_mono HO15.out (fun _ hk=>trivial)⟩,⟨by (with_reducible repeat (first | refine blk_drewN ?_ _ | refine blk_drew ?_ | refine blk_alloc ?_ _));exact BK1.out⟩,⟨by (with_reducible repeat (first | refine blk_drewN ?_ _ | refine blk_drew ?_ | refine blk_alloc ?_ _));exact BK16.out⟩,⟨hbw_⟩⟩
       ·rw [if_neg c61] at H
        have c61b0 : decide (t34 < 0) = false:=decide_eq_false c61
        clear c61
        (first | rw [c61b0] | (simp only [i64_w,i32_w];rw [c61b0]) | skip)
        replace H:=Option.bind_eq_some_iff.mp H
        obtain ⟨t36,A620,H⟩:=H
        try dsimp only at H
        have A62:=a0_ A620
        clear A620
        have H':=a0_ H
        clear H
        go_wp2_with (first | (go_at_call 26;(with_reducible refine (laws_eqIntS.calls k _ _ t20 _ _ t10 t36 _ ?side1 ?side2 ?side3 ?side4 A62.out).mono ?_);(case side1=>exact cc_ (Kd.R_reads' HO22.out).2.2);(case side2=>exact (Kd.R_reads' HO22.out).2.1);(case side3=>exact cc_ (Kd.R_reads' HO12.out).2.2);(case side4=>exact (Kd.R_reads' HO12.out).2.1);rintro e w' ⟨rfl,⟨nd,rfl⟩⟩))
        go_meet
        case rel=>exact ⟨_,(!t36),(by first | rfl | (simp;done) | (simp [*];done)),H',⟨by first | omega | exact Nat.le_refl _⟩,⟨by (with_reducible repeat (first | apply Kd.R_alloc | apply Kd.R_drewN | apply Kd.R_drew));exact HO12.out⟩,⟨by (with_reducible repeat (first | apply Kd.R_alloc | apply Kd.R_drewN | apply Kd.R_drew));exact HO22.out⟩,⟨by (with_reducible repeat (first | apply Kd.R_alloc | apply Kd.R_drewN | apply Kd.R_drew));exact Kd.R_mono HO15.out (fun _ hk=>trivial)⟩,⟨by (with_reducible repeat (first | refine blk_drewN ?_ _ | refine blk_drew ?_ | refine blk_alloc ?_ _));exact BK1.out⟩,⟨by (with_reducible repeat (first | refine blk_drewN ?_ _ | refine blk_drew ?_ | refine blk_alloc ?_ _));exact BK16.out⟩,⟨hbw_⟩⟩
      case rest =>
       clear HC29
       try clear c1
       try clear c2
       try clear p2
       try clear c4
       try clear c4b0
       try clear c6
       try clear c7
       try clear c8
       try clear c9
       try clear c9b0
       try clear c10
       try clear c11
       try clear c14
       try clear c15
       try clear c16
       try clear c17
       try clear c20
       try clear c23
       try clear c24
       try clear c25
       try clear c26
       try clear c43
       try clear c61
       try clear c61b0
       try clear hcz11_0
       try clear hcz31_0
       try clear hcz33_0
       try clear hcz39_0
       try clear hcz44_0
       try clear hcz46_0
       try clear hcz58_0
       try clear hcz6_0
       try clear hfz11_0
       try clear hfz31_0
       try clear hfz33_0
       try clear hfz39_0
       try clear hfz44_0
       try clear hfz46_0
       try clear hfz58_0
       try clear hfz6_0
       obtain ⟨kq,x63_28,rfl,HA,HJ28,HO_6,HO_9,Z17,BK1,BK16,HB⟩:=hcut
       have hl17000_28:=(Kd.R_reads' Z17.out).1
       rw [hl17000_28] at Z17
       (try simp only [hl17000_28])
       (try simp only [hl17000_28] at BK1)
       (try simp only [hl17000_28] at BK16)
       (try simp only [hl17000_28] at HO_6)
       (try simp only [hl17000_28] at HO_9)
       cases kq with
       | zero=>exact absurd HA.out (by simp [laws_FnExactEscapesOf.j0])
       | succ kj28 =>
        have H:=HA.out
        clear HA
        simp only [laws_FnExactEscapesOf.j0] at H
        by_cases c63 : x63_28 = true
        ·subst c63
         have H1 : (some false) = some r:=by rw [if_pos rfl] at H;exact H
         clear H
         have H:=H1
         clear H1
         obtain rfl:=Option.some.inj H
         go_wp2
         go_ret
         exact ⟨by first | rfl | (simp [errW_none,errW_some] <;> rfl) | (simp [*,errW_none,errW_some] <;> rfl),hbw_⟩
        ·replace c63:=Bool.eq_false_iff.mpr c63
         subst c63
         have H1 : ((laws_markIntS.f kj28 t20 1).bind fun bt37=>((laws_heldIntS.f kj28 bt37.2 1).bind fun t39=>(if t39 < 0 then (some false) else (if t39 = bt37.1 then ((laws_toTree.f kj28 l0_0).bind fun t40=>((laws_toExitS.f kj28 l1).bind fun t43=>((impl_EscapesOf.f t40 t43).bind fun t46=>((laws_eqIntS.f kj28 t46 t10).bind fun t49=>(if t49 = true then ((laws_heldIntS.f kj28 bt37.2 1).bind fun t50=>(if t50 < 0 then (some false) else (if t50 = bt37.1 then (some true) else (some false)))) else (some false)))))) else (some false))))) = some r:=by rw [if_neg (show ¬ (false = true) by decide)] at H;exact H
         clear H
         have H:=H1
         clear H1
         replace H:=Option.bind_eq_some_iff.mp H
         obtain ⟨⟨t37,t38⟩,A640,H⟩:=H
         try dsimp only at H
         have A64:=a0_ A640
         clear A640
         replace H:=Option.bind_eq_some_iff.mp H
         obtain ⟨t39,A650,H⟩:=H
         try dsimp only at H
         have A65:=a0_ A650
         clear A650
         by_cases c66 : t39 < 0
         ·rw [if_pos c66] at H
          have c66b0 : decide (t39 < 0) = true:=decide_eq_true c66
          clear c66
          obtain rfl:=Option.some.inj H
          go_wp2_with (first | ((with_reducible refine gate_callee (f:=27) rfl ?_);refine goesL_ (some 66) rfl rfl Try.func27 (by kernel_rfl) rfl #[.slice Ao49 t20.length co49,.int .i64 1] rfl lm_ ?_;(with_reducible refine (laws_markIntS.calls kj28 (fun k_=>some k_ = (.slice Ao49 t20.length co49 : Value).ownBlock) (.slice Ao49 t20.length co49) t20 1 t37 t38 w _ ?side1 ?side2 A64.out).mono ?_);(case side1=>exact hbw_);(case side2=>exact Kd.R_tight rfl HO_9.out);rintro e w67 ⟨rfl,hy0,hb,hkp⟩;refine ⟨_,rfl,?_⟩;have n0_:=a0_ (Kd.R_mono (ok':=fun k_=>some k_ ≠ (.slice Ao49 t20.length co49 : Value).ownBlock) (Kd.R_keptB (HO_6.out) hkp (fun k_ hk_ hs_=>(hk_) hs_)) (fun k_ hk_=>hk_.1));have n1_:=a0_ (Kd.R_reok rfl hy0 (fun k_ e_=>HO_9.out.1 k_ e_));have n2_:=a0_ (Kd.R_mono (ok':=fun k_=>True) (Kd.R_keptB ((Kd.R_apart' Z17.out (Kd.R_typed HO_9.out) (by decide))) hkp (fun k_ hk_ hs_=>(hk_.2) hs_)) (fun k_ hk_=>trivial));have n3_:=a0_ (blk_kept (bb_ BK1.out) hkp (fun hs_=>(fun e_=>(Kd.R_ne HO_9.out BK1.out (by decide)) e_) hs_));have n4_:=a0_ (blk_kept (bb_ BK16.out) hkp (fun hs_=>(fun e_=>(Kd.R_ne HO_9.out BK16.out (by decide)) e_) hs_));have n5_:=a0_ (hb);clear HO_6 HO_9;clear Z17 BK1;clear BK16 HB;have HO_6:=n0_;have HO_9:=n1_;have Z17:=n2_;have BK1:=n3_;have BK16:=n4_;have HB:=n5_;clear n0_ n1_ n2_ n3_ n4_ n5_;(try clear hb);(try clear hkp);(try clear hy0)) | ((with_reducible refine gate_callee (f:=28) rfl ?_);refine goesL_ (some 69) rfl rfl Try.func28 (by kernel_rfl) rfl #[.slice Ao49 t38.length co49,.int .i64 1] rfl (by (try simp only [List.map_toArray,List.map_cons,List.map_nil]);first | done | (rw [show t38.length = t20.length from (Kd.R_reads' HO_9.out).1.symm] <;> rfl) | rfl | (simp only [List.length_drop,List.length_take];rfl)) ?_;(with_reducible refine (laws_heldIntS.calls kj28 _ _ t38 1 t39 _ ?side1 ?side2 A65.out).mono ?_);(case side1=>exact cc_ (Kd.R_reads' HO_9.out).2.2);(case side2=>rw [show t38.length = t20.length from (Kd.R_reads' HO_9.out).1.symm];exact (Kd.R_reads' HO_9.out).2.1);rintro e w' ⟨rfl,⟨nd,rfl⟩⟩;refine ⟨_,rfl,?_⟩))
          go_ret
          exact ⟨by first | rfl | (simp [errW_none,errW_some] <;> rfl) | (simp [*,errW_none,errW_some] <;> rfl),hbw_⟩
         ·rw [if_neg c66] at H
          have c66b0 : decide (t39 < 0) = false:=decide_eq_false c66
          clear c66
          by_cases c68 : t39 = t37
          ·rw [if_pos c68] at H
           have c68b0 : (t39 == t37) = true:=beq_iff_eq.mpr c68
           have c68b1 : (t39 != t37) = false:=bne_eq_false_iff_eq.mpr c68
           clear c68
           replace H:=Option.bind_eq_some_iff.mp H
           obtain ⟨t40,A690,H⟩:=H
           try dsimp only at H
           have A69:=a0_ A690
           clear A690
           replace H:=Option.bind_eq_some_iff.mp H
           obtain ⟨t43,A700,H⟩:=H
           try dsimp only at H
           have A70:=a0_ A700
           clear A700
           replace H:=Option.bind_eq_some_iff.mp H
           obtain ⟨t46,A710,H⟩:=H
           try dsimp only at H
           have A71:=a0_ A710
           clear A710
           replace H:=Option.bind_eq_some_iff.mp H
           obtain ⟨t49,A720,H⟩:=H
           try dsimp only at H
           have A72:=a0_ A720
           clear A720
           by_cases c73 : t49 = true
           ·subst c73
            have H1 : ((laws_heldIntS.f kj28 t38 1).bind fun t50=>(if t50 < 0 then (some false) else (if t50 = t37 then (some true) else (some false)))) = some r:=by rw [if_pos rfl] at H;exact H
            clear H
            have H:=H1
            clear H1
            replace H:=Option.bind_eq_some_iff.mp H
            obtain ⟨t50,A740,H⟩:=H
            try dsimp only at H
            have A74:=a0_ A740
            clear A740
            by_cases c75 : t50 < 0
            ·rw [if_pos c75] at H
             have c75b0 : decide (t50 < 0) = true:=decide_eq_true c75
             clear c75
             obtain rfl:=Option.some.inj H
             go_wp2_with (first | ((with_reducible refine gate_callee (f:=27) rfl ?_);refine goesL_ (some 66) rfl rfl Try.func27 (by kernel_rfl) rfl #[.slice Ao49 t20.length co49,.int .i64 1] rfl lm_ ?_;(with_reducible refine (laws_markIntS.calls kj28 (fun k_=>some k_ = (.slice Ao49 t20.length co49 : Value).ownBlock) (.slice Ao49 t20.length co49) t20 1 t37 t38 w _ ?side1 ?side2 A64.out).mono ?_);(case side1=>exact hbw_);(case side2=>exact Kd.R_tight rfl HO_9.out);rintro e w76 ⟨rfl,hy0,hb,hkp⟩;refine ⟨_,rfl,?_⟩;have n0_:=a0_ (Kd.R_mono (ok':=fun k_=>some k_ ≠ (.slice Ao49 t20.length co49 : Value).ownBlock) (Kd.R_keptB (HO_6.out) hkp (fun k_ hk_ hs_=>(hk_) hs_)) (fun k_ hk_=>hk_.1));have n1_:=a0_ (Kd.R_reok rfl hy0 (fun k_ e_=>HO_9.out.1 k_ e_));have n2_:=a0_ (Kd.R_mono (ok':=fun k_=>True) (Kd.R_keptB ((Kd.R_apart' Z17.out (Kd.R_typed HO_9.out) (by decide))) hkp (fun k_ hk_ hs_=>(hk_.2) hs_)) (fun k_ hk_=>trivial));have n3_:=a0_ (blk_kept (bb_ BK1.out) hkp (fun hs_=>(fun e_=>(Kd.R_ne HO_9.out BK1.out (by decide)) e_) hs_));have n4_:=a0_ (blk_kept (bb_ BK16.out) hkp (fun hs_=>(fun e_=>(Kd.R_ne HO_9.out BK16.out (by decide)) e_) hs_));have n5_:=a0_ (hb);clear HO_6 HO_9;clear Z17 BK1;clear BK16 HB;have HO_6:=n0_;have HO_9:=n1_;have Z17:=n2_;have BK1:=n3_;have BK16:=n4_;have HB:=n5_;clear n0_ n1_ n2_ n3_ n4_ n5_;(try clear hb);(try clear hkp);(try clear hy0)) | ((with_reducible refine gate_callee (f:=28) rfl ?_);refine goesL_ (some 69) rfl rfl Try.func28 (by kernel_rfl) rfl #[.slice Ao49 t38.length co49,.int .i64 1] rfl (by (try simp only [List.map_toArray,List.map_cons,List.map_nil]);first | done | (rw [show t38.length = t20.length from (Kd.R_reads' HO_9.out).1.symm] <;> rfl) | rfl | (simp only [List.length_drop,List.length_take];rfl)) ?_;(with_reducible refine (laws_heldIntS.calls kj28 _ _ t38 1 t39 _ ?side1 ?side2 A65.out).mono ?_);(case side1=>exact cc_ (Kd.R_reads' HO_9.out).2.2);(case side2=>rw [show t38.length = t20.length from (Kd.R_reads' HO_9.out).1.symm];exact (Kd.R_reads' HO_9.out).2.1);rintro e w' ⟨rfl,⟨nd,rfl⟩⟩;refine ⟨_,rfl,?_⟩;have hnb77:=NB1_16.out;have hnc77:=NB16_1.out;have hcz78_0 : w76.cell? ⟨gb1,0,none⟩ = some (.slice A0_0 l0_0.length c0_0):=(blk_cell BK1.out 0).trans rfl;have hfz78_0:=blk_frozen BK1.out 0) | ((with_reducible refine gate_callee (f:=10) rfl ?_);refine goesL_ (some 76) rfl rfl Try.func10 (by kernel_rfl) rfl #[.agg #[.slice A0_0 l0_0.length c0_0]] rfl lm_ ?_;(with_reducible refine (laws_toTree.calls kj28 _ _ l0_0 t40 _ ?side1 ?side2 A69.out).mono ?_);(case side1=>repeat (first | exact (Kd.C_below HR0_0.out hbw_) | (with_reducible refine Kd.C_alloc ?_ _) | (with_reducible refine Kd.C_drewN ?_ _) | (with_reducible refine Kd.C_drew ?_)));(case side2=>exact HC0_0.out);rintro e w79 ⟨v41,rfl,ho0,hb⟩;refine ⟨_,rfl,?_⟩;have n0_:=rb_ HO_6 hb;have n1_:=rb_ HO_9 hb;have n2_:=a0_ (Kd.R_elder' (rr_ Z17.out) (Kd.R_base ho0) hb);have n3_:=a0_ (Kd.R_lower (Kd.R_new' ho0 (Kd.R_lt (rr_ Z17.out))) (below_size hbw_));have n4_:=kb_ BK1 hb;have n5_:=kb_ BK16 hb;have n6_:=a0_ (below_step hbw_ hb);clear HO_6 HO_9;clear Z17 BK1;clear BK16 HB;have HO_6:=n0_;have HO_9:=n1_;have Z17:=n2_;have HO42:=n3_;have BK1:=n4_;have BK16:=n5_;have HB:=n6_;clear n0_ n1_ n2_ n3_ n4_ n5_ n6_;(try clear hb);(try clear ho0)) | ((with_reducible refine gate_callee (f:=11) rfl ?_);refine goesL_ (some 78) rfl rfl Try.func11 (by kernel_rfl) rfl #[.slice A1 l1.length c1] rfl lm_ ?_;(with_reducible refine (laws_toExitS.calls kj28 _ _ l1 t43 _ ?side1 ?side2 A70.out).mono ?_);(case side1=>exact cc_ (Kd.C_below HR1.out HB.out));(case side2=>exact HC1.out);rintro e w80 ⟨v44,rfl,ho0,hb⟩;refine ⟨_,rfl,?_⟩;replace HO_6:=rb_ HO_6 hb;replace HO_9:=rb_ HO_9 hb;replace Z17:=rb_ Z17 hb;replace HO42:=rb_ HO42 hb;have HO45:=a0_ (Kd.R_lower ho0 (below_size hbw_));replace BK1:=kb_ BK1 hb;replace BK16:=kb_ BK16 hb;replace HB:=a0_ (below_step hbw_ hb);(try clear hb);(try clear ho0);obtain ⟨Ao81,co81,eo81⟩:=Kd.R_slice HO42.out;subst eo81;obtain ⟨Ao82,co82,eo82⟩:=Kd.R_slice HO45.out;subst eo82) | ((with_reducible refine gate_callee (f:=25) rfl ?_);refine goesL_ (some 79) rfl rfl Try.func25 (by kernel_rfl) rfl #[.agg #[.slice Ao81 t40.length co81],.slice Ao82 t43.length co82] rfl lm_ ?_;(with_reducible refine (impl_EscapesOf.calls _ _ t40 _ _ t43 t46 _ ?side1 ?side2 ?side3 ?side4 A71.out).mono ?_);(case side1=>exact cc_ (Kd.R_reads' HO42.out).2.2);(case side2=>exact (Kd.R_reads' HO42.out).2.1);(case side3=>exact cc_ (Kd.R_reads' HO45.out).2.2);(case side4=>exact (Kd.R_reads' HO45.out).2.1);rintro e w83 ⟨v47,rfl,ho0,hb⟩;refine ⟨_,rfl,?_⟩;have n0_:=a0_ (Kd.R_elder' (rr_ HO_6.out) (Kd.R_base ho0) hb);have n1_:=a0_ (Kd.R_elder' (rr_ HO_9.out) (Kd.R_base ho0) hb);have n2_:=rb_ Z17 hb;have n3_:=rb_ HO42 hb;have n4_:=rb_ HO45 hb;have n5_:=a0_ (Kd.R_lower (Kd.R_new' (Kd.R_new' ho0 (Kd.R_lt (rr_ HO_6.out))) (Kd.R_lt (rr_ HO_9.out))) (below_size hbw_));have n6_:=kb_ BK1 hb;have n7_:=kb_ BK16 hb;have n8_:=a0_ (below_step hbw_ hb);clear HO_6 HO_9;clear Z17 HO42;clear HO45 BK1;clear BK16 HB;have HO_6:=n0_;have HO_9:=n1_;have Z17:=n2_;have HO42:=n3_;have HO45:=n4_;have HO48:=n5_;have BK1:=n6_;have BK16:=n7_;have HB:=n8_;clear n0_ n1_ n2_ n3_ n4_ n5_ n6_ n7_ n8_;(try clear hb);(try clear ho0);obtain ⟨Ao84,co84,eo84⟩:=Kd.R_slice HO48.out;subst eo84) | ((with_reducible refine gate_callee (f:=26) rfl ?_);refine goesL_ (some 82) rfl rfl Try.func26 (by kernel_rfl) rfl #[.slice Ao84 t46.length co84,.slice Ao50 t10.length co50] rfl lm_ ?_;(with_reducible refine (laws_eqIntS.calls kj28 _ _ t46 _ _ t10 true _ ?side1 ?side2 ?side3 ?side4 A72.out).mono ?_);(case side1=>exact cc_ (Kd.R_reads' HO48.out).2.2);(case side2=>exact (Kd.R_reads' HO48.out).2.1);(case side3=>exact cc_ (Kd.R_reads' HO_6.out).2.2);(case side4=>exact (Kd.R_reads' HO_6.out).2.1);rintro e w' ⟨rfl,⟨nd,rfl⟩⟩;refine ⟨_,rfl,?_⟩) | ((with_reducible refine gate_callee (f:=28) rfl ?_);refine goesL_ (some 86) rfl rfl Try.func28 (by kernel_rfl) rfl #[.slice Ao49 t38.length co49,.int .i64 1] rfl (by (try simp only [List.map_toArray,List.map_cons,List.map_nil]);first | done | (rw [show t38.length = t20.length from (Kd.R_reads' HO_9.out).1.symm] <;> rfl) | rfl | (simp only [List.length_drop,List.length_take];rfl)) ?_;(with_reducible refine (laws_heldIntS.calls kj28 _ _ t38 1 t50 _ ?side1 ?side2 A74.out).mono ?_);(case side1=>exact cc_ (Kd.R_reads' HO_9.out).2.2);(case side2=>rw [show t38.length = t20.length from (Kd.R_reads' HO_9.out).1.symm];exact (Kd.R_reads' HO_9.out).2.1);rintro e w' ⟨rfl,⟨nd,rfl⟩⟩;refine ⟨_,rfl,?_⟩))
             go_ret
             exact ⟨by first | rfl | (simp [errW_none,errW_some] <;> rfl) | (simp [*,errW_none,errW_some] <;> rfl),hbw_⟩
            ·rw [if_neg c75] at H
             have c75b0 : decide (t50 < 0) = false:=decide_eq_false c75
             clear c75
             by_cases c85 : t50 = t37
             ·rw [if_pos c85] at H
              have c85b0 : (t50 == t37) = true:=beq_iff_eq.mpr c85
              have c85b1 : (t50 != t37) = false:=bne_eq_false_iff_eq.mpr c85
              clear c85
              obtain rfl:=Option.some.inj H
              go_wp2_with (first | ((with_reducible refine gate_callee (f:=27) rfl ?_);refine goesL_ (some 66) rfl rfl Try.func27 (by kernel_rfl) rfl #[.slice Ao49 t20.length co49,.int .i64 1] rfl lm_ ?_;(with_reducible refine (laws_markIntS.calls kj28 (fun k_=>some k_ = (.slice Ao49 t20.length co49 : Value).ownBlock) (.slice Ao49 t20.length co49) t20 1 t37 t38 w _ ?side1 ?side2 A64.out).mono ?_);(case side1=>exact hbw_);(case side2=>exact Kd.R_tight rfl HO_9.out);rintro e w86 ⟨rfl,hy0,hb,hkp⟩;refine ⟨_,rfl,?_⟩;have n0_:=a0_ (Kd.R_mono (ok':=fun k_=>some k_ ≠ (.slice Ao49 t20.length co49 : Value).ownBlock) (Kd.R_keptB (HO_6.out) hkp (fun k_ hk_ hs_=>(hk_) hs_)) (fun k_ hk_=>hk_.1));have n1_:=a0_ (Kd.R_reok rfl hy0 (fun k_ e_=>HO_9.out.1 k_ e_));have n2_:=a0_ (Kd.R_mono (ok':=fun k_=>True) (Kd.R_keptB ((Kd.R_apart' Z17.out (Kd.R_typed HO_9.out) (by decide))) hkp (fun k_ hk_ hs_=>(hk_.2) hs_)) (fun k_ hk_=>trivial));have n3_:=a0_ (blk_kept (bb_ BK1.out) hkp (fun hs_=>(fun e_=>(Kd.R_ne HO_9.out BK1.out (by decide)) e_) hs_));have n4_:=a0_ (blk_kept (bb_ BK16.out) hkp (fun hs_=>(fun e_=>(Kd.R_ne HO_9.out BK16.out (by decide)) e_) hs_));have n5_:=a0_ (hb);clear HO_6 HO_9;clear Z17 BK1;clear BK16 HB;have HO_6:=n0_;have HO_9:=n1_;have Z17:=n2_;have BK1:=n3_;have BK16:=n4_;have HB:=n5_;clear n0_ n1_ n2_ n3_ n4_ n5_;(try clear hb);(try clear hkp);(try clear hy0)) | ((with_reducible refine gate_callee (f:=28) rfl ?_);refine goesL_ (some 69) rfl rfl Try.func28 (by kernel_rfl) rfl #[.slice Ao49 t38.length co49,.int .i64 1] rfl (by (try simp only [List.map_toArray,List.map_cons,List.map_nil]);first | done | (rw [show t38.length = t20.length from (Kd.R_reads' HO_9.out).1.symm] <;> rfl) | rfl | (simp only [List.length_drop,List.length_take];rfl)) ?_;(with_reducible refine (laws_heldIntS.calls kj28 _ _ t38 1 t39 _ ?side1 ?side2 A65.out).mono ?_);(case side1=>exact cc_ (Kd.R_reads' HO_9.out).2.2);(case side2=>rw [show t38.length = t20.length from (Kd.R_reads' HO_9.out).1.symm];exact (Kd.R_reads' HO_9.out).2.1);rintro e w' ⟨rfl,⟨nd,rfl⟩⟩;refine ⟨_,rfl,?_⟩;have hnb87:=NB1_16.out;have hnc87:=NB16_1.out;have hcz88_0 : w86.cell? ⟨gb1,0,none⟩ = some (.slice A0_0 l0_0.length c0_0):=(blk_cell BK1.out 0).trans rfl;have hfz88_0:=blk_frozen BK1.out 0) | ((with_reducible refine gate_callee (f:=10) rfl ?_);refine goesL_ (some 76) rfl rfl Try.func10 (by kernel_rfl) rfl #[.agg #[.slice A0_0 l0_0.length c0_0]] rfl lm_ ?_;(with_reducible refine (laws_toTree.calls kj28 _ _ l0_0 t40 _ ?side1 ?side2 A69.out).mono ?_);(case side1=>repeat (first | exact (Kd.C_below HR0_0.out hbw_) | (with_reducible refine Kd.C_alloc ?_ _) | (with_reducible refine Kd.C_drewN ?_ _) | (with_reducible refine Kd.C_drew ?_)));(case side2=>exact HC0_0.out);rintro e w89 ⟨v41,rfl,ho0,hb⟩;refine ⟨_,rfl,?_⟩;have n0_:=rb_ HO_6 hb;have n1_:=rb_ HO_9 hb;have n2_:=a0_ (Kd.R_elder' (rr_ Z17.out) (Kd.R_base ho0) hb);have n3_:=a0_ (Kd.R_lower (Kd.R_new' ho0 (Kd.R_lt (rr_ Z17.out))) (below_size hbw_));have n4_:=kb_ BK1 hb;have n5_:=kb_ BK16 hb;have n6_:=a0_ (below_step hbw_ hb);clear HO_6 HO_9;clear Z17 BK1;clear BK16 HB;have HO_6:=n0_;have HO_9:=n1_;have Z17:=n2_;have HO42:=n3_;have BK1:=n4_;have BK16:=n5_;have HB:=n6_;clear n0_ n1_ n2_ n3_ n4_ n5_ n6_;(try clear hb);(try clear ho0)) | ((with_reducible refine gate_callee (f:=11) rfl ?_);refine goesL_ (some 78) rfl rfl Try.func11 (by kernel_rfl) rfl #[.slice A1 l1.length c1] rfl lm_ ?_;(with_reducible refine (laws_toExitS.calls kj28 _ _ l1 t43 _ ?side1 ?side2 A70.out).mono ?_);(case side1=>exact cc_ (Kd.C_below HR1.out HB.out));(case side2=>exact HC1.out);rintro e w90 ⟨v44,rfl,ho0,hb⟩;refine ⟨_,rfl,?_⟩;replace HO_6:=rb_ HO_6 hb;replace HO_9:=rb_ HO_9 hb;replace Z17:=rb_ Z17 hb;replace HO42:=rb_ HO42 hb;have HO45:=a0_ (Kd.R_lower ho0 (below_size hbw_));replace BK1:=kb_ BK1 hb;replace BK16:=kb_ BK16 hb;replace HB:=a0_ (below_step hbw_ hb);(try clear hb);(try clear ho0);obtain ⟨Ao91,co91,eo91⟩:=Kd.R_slice HO42.out;subst eo91;obtain ⟨Ao92,co92,eo92⟩:=Kd.R_slice HO45.out;subst eo92) | ((with_reducible refine gate_callee (f:=25) rfl ?_);refine goesL_ (some 79) rfl rfl Try.func25 (by kernel_rfl) rfl #[.agg #[.slice Ao91 t40.length co91],.slice Ao92 t43.length co92] rfl lm_ ?_;(with_reducible refine (impl_EscapesOf.calls _ _ t40 _ _ t43 t46 _ ?side1 ?side2 ?side3 ?side4 A71.out).mono ?_);(case side1=>exact cc_ (Kd.R_reads' HO42.out).2.2);(case side2=>exact (Kd.R_reads' HO42.out).2.1);(case side3=>exact cc_ (Kd.R_reads' HO45.out).2.2);(case side4=>exact (Kd.R_reads' HO45.out).2.1);rintro e w93 ⟨v47,rfl,ho0,hb⟩;refine ⟨_,rfl,?_⟩;have n0_:=a0_ (Kd.R_elder' (rr_ HO_6.out) (Kd.R_base ho0) hb);have n1_:=a0_ (Kd.R_elder' (rr_ HO_9.out) (Kd.R_base ho0) hb);have n2_:=rb_ Z17 hb;have n3_:=rb_ HO42 hb;have n4_:=rb_ HO45 hb;have n5_:=a0_ (Kd.R_lower (Kd.R_new' (Kd.R_new' ho0 (Kd.R_lt (rr_ HO_6.out))) (Kd.R_lt (rr_ HO_9.out))) (below_size hbw_));have n6_:=kb_ BK1 hb;have n7_:=kb_ BK16 hb;have n8_:=a0_ (below_step hbw_ hb);clear HO_6 HO_9;clear Z17 HO42;clear HO45 BK1;clear BK16 HB;have HO_6:=n0_;have HO_9:=n1_;have Z17:=n2_;have HO42:=n3_;have HO45:=n4_;have HO48:=n5_;have BK1:=n6_;have BK16:=n7_;have HB:=n8_;clear n0_ n1_ n2_ n3_ n4_ n5_ n6_ n7_ n8_;(try clear hb);(try clear ho0);obtain ⟨Ao94,co94,eo94⟩:=Kd.R_slice HO48.out;subst eo94) | ((with_reducible refine gate_callee (f:=26) rfl ?_);refine goesL_ (some 82) rfl rfl Try.func26 (by kernel_rfl) rfl #[.slice Ao94 t46.length co94,.slice Ao50 t10.length co50] rfl lm_ ?_;(with_reducible refine (laws_eqIntS.calls kj28 _ _ t46 _ _ t10 true _ ?side1 ?side2 ?side3 ?side4 A72.out).mono ?_);(case side1=>exact cc_ (Kd.R_reads' HO48.out).2.2);(case side2=>exact (Kd.R_reads' HO48.out).2.1);(case side3=>exact cc_ (Kd.R_reads' HO_6.out).2.2);(case side4=>exact (Kd.R_reads' HO_6.out).2.1);rintro e w' ⟨rfl,⟨nd,rfl⟩⟩;refine ⟨_,rfl,?_⟩) | ((with_reducible refine gate_callee (f:=28) rfl ?_);refine goesL_ (some 86) rfl rfl Try.func28 (by kernel_rfl) rfl #[.slice Ao49 t38.length co49,.int .i64 1] rfl (by (try simp only [List.map_toArray,List.map_cons,List.map_nil]);first | done | (rw [show t38.length = t20.length from (Kd.R_reads' HO_9.out).1.symm] <;> rfl) | rfl | (simp only [List.length_drop,List.length_take];rfl)) ?_;(with_reducible refine (laws_heldIntS.calls kj28 _ _ t38 1 t50 _ ?side1 ?side2 A74.out).mono ?_);(case side1=>exact cc_ (Kd.R_reads' HO_9.out).2.2);(case side2=>rw [show t38.length = t20.length from (Kd.R_reads' HO_9.out).1.symm];exact (Kd.R_reads' HO_9.out).2.1);rintro e w' ⟨rfl,⟨nd,rfl⟩⟩;refine ⟨_,rfl,?_⟩))
              go_ret
              exact ⟨by first | rfl | (simp [errW_none,errW_some] <;> rfl) | (simp [*,errW_none,errW_some] <;> rfl),hbw_⟩
             ·rw [if_neg c85] at H
              have c85b0 : (t50 == t37) = false:=beq_eq_false_iff_ne.mpr c85
              have c85b1 : (t50 != t37) = true:=bne_iff_ne.mpr c85
              obtain rfl:=Option.some.inj H
              go_wp2_with (first | ((with_reducible refine gate_callee (f:=27) rfl ?_);refine goesL_ (some 66) rfl rfl Try.func27 (by kernel_rfl) rfl #[.slice Ao49 t20.length co49,.int .i64 1] rfl lm_ ?_;(with_reducible refine (laws_markIntS.calls kj28 (fun k_=>some k_ = (.slice Ao49 t20.length co49 : Value).ownBlock) (.slice Ao49 t20.length co49) t20 1 t37 t38 w _ ?side1 ?side2 A64.out).mono ?_);(case side1=>exact hbw_);(case side2=>exact Kd.R_tight rfl HO_9.out);rintro e w95 ⟨rfl,hy0,hb,hkp⟩;refine ⟨_,rfl,?_⟩;have n0_:=a0_ (Kd.R_mono (ok':=fun k_=>some k_ ≠ (.slice Ao49 t20.length co49 : Value).ownBlock) (Kd.R_keptB (HO_6.out) hkp (fun k_ hk_ hs_=>(hk_) hs_)) (fun k_ hk_=>hk_.1));have n1_:=a0_ (Kd.R_reok rfl hy0 (fun k_ e_=>HO_9.out.1 k_ e_));have n2_:=a0_ (Kd.R_mono (ok':=fun k_=>True) (Kd.R_keptB ((Kd.R_apart' Z17.out (Kd.R_typed HO_9.out) (by decide))) hkp (fun k_ hk_ hs_=>(hk_.2) hs_)) (fun k_ hk_=>trivial));have n3_:=a0_ (blk_kept (bb_ BK1.out) hkp (fun hs_=>(fun e_=>(Kd.R_ne HO_9.out BK1.out (by decide)) e_) hs_));have n4_:=a0_ (blk_kept (bb_ BK16.out) hkp (fun hs_=>(fun e_=>(Kd.R_ne HO_9.out BK16.out (by decide)) e_) hs_));have n5_:=a0_ (hb);clear HO_6 HO_9;clear Z17 BK1;clear BK16 HB;have HO_6:=n0_;have HO_9:=n1_;have Z17:=n2_;have BK1:=n3_;have BK16:=n4_;have HB:=n5_;clear n0_ n1_ n2_ n3_ n4_ n5_;(try clear hb);(try clear hkp);(try clear hy0)) | ((with_reducible refine gate_callee (f:=28) rfl ?_);refine goesL_ (some 69) rfl rfl Try.func28 (by kernel_rfl) rfl #[.slice Ao49 t38.length co49,.int .i64 1] rfl (by (try simp only [List.map_toArray,List.map_cons,List.map_nil]);first | done | (rw [show t38.length = t20.length from (Kd.R_reads' HO_9.out).1.symm] <;> rfl) | rfl | (simp only [List.length_drop,List.length_take];rfl)) ?_;(with_reducible refine (laws_heldIntS.calls kj28 _ _ t38 1 t39 _ ?side1 ?side2 A65.out).mono ?_);(case side1=>exact cc_ (Kd.R_reads' HO_9.out).2.2);(case side2=>rw [show t38.length = t20.length from (Kd.R_reads' HO_9.out).1.symm];exact (Kd.R_reads' HO_9.out).2.1);rintro e w' ⟨rfl,⟨nd,rfl⟩⟩;refine ⟨_,rfl,?_⟩;have hnb96:=NB1_16.out;have hnc96:=NB16_1.out;have hcz97_0 : w95.cell? ⟨gb1,0,none⟩ = some (.slice A0_0 l0_0.length c0_0):=(blk_cell BK1.out 0).trans rfl;have hfz97_0:=blk_frozen BK1.out 0) | ((with_reducible refine gate_callee (f:=10) rfl ?_);refine goesL_ (some 76) rfl rfl Try.func10 (by kernel_rfl) rfl #[.agg #[.slice A0_0 l0_0.length c0_0]] rfl lm_ ?_;(with_reducible refine (laws_toTree.calls kj28 _ _ l0_0 t40 _ ?side1 ?side2 A69.out).mono ?_);(case side1=>repeat (first | exact (Kd.C_below HR0_0.out hbw_) | (with_reducible refine Kd.C_alloc ?_ _) | (with_reducible refine Kd.C_drewN ?_ _) | (with_reducible refine Kd.C_drew ?_)));(case side2=>exact HC0_0.out);rintro e w98 ⟨v41,rfl,ho0,hb⟩;refine ⟨_,rfl,?_⟩;have n0_:=rb_ HO_6 hb;have n1_:=rb_ HO_9 hb;have n2_:=a0_ (Kd.R_elder' (rr_ Z17.out) (Kd.R_base ho0) hb);have n3_:=a0_ (Kd.R_lower (Kd.R_new' ho0 (Kd.R_lt (rr_ Z17.out))) (below_size hbw_));have n4_:=kb_ BK1 hb;have n5_:=kb_ BK16 hb;have n6_:=a0_ (below_step hbw_ hb);clear HO_6 HO_9;clear Z17 BK1;clear BK16 HB;have HO_6:=n0_;have HO_9:=n1_;have Z17:=n2_;have HO42:=n3_;have BK1:=n4_;have BK16:=n5_;have HB:=n6_;clear n0_ n1_ n2_ n3_ n4_ n5_ n6_;(try clear hb);(try clear ho0)) | ((with_reducible refine gate_callee (f:=11) rfl ?_);refine goesL_ (some 78) rfl rfl Try.func11 (by kernel_rfl) rfl #[.slice A1 l1.length c1] rfl lm_ ?_;(with_reducible refine (laws_toExitS.calls kj28 _ _ l1 t43 _ ?side1 ?side2 A70.out).mono ?_);(case side1=>exact cc_ (Kd.C_below HR1.out HB.out));(case side2=>exact HC1.out);rintro e w99 ⟨v44,rfl,ho0,hb⟩;refine ⟨_,rfl,?_⟩;replace HO_6:=rb_ HO_6 hb;replace HO_9:=rb_ HO_9 hb;replace Z17:=rb_ Z17 hb;replace HO42:=rb_ HO42 hb;have HO45:=a0_ (Kd.R_lower ho0 (below_size hbw_));replace BK1:=kb_ BK1 hb;replace BK16:=kb_ BK16 hb;replace HB:=a0_ (below_step hbw_ hb);(try clear hb);(try clear ho0);obtain ⟨Ao100,co100,eo100⟩:=Kd.R_slice HO42.out;subst eo100;obtain ⟨Ao101,co101,eo101⟩:=Kd.R_slice HO45.out;subst eo101) | ((with_reducible refine gate_callee (f:=25) rfl ?_);refine goesL_ (some 79) rfl rfl Try.func25 (by kernel_rfl) rfl #[.agg #[.slice Ao100 t40.length co100],.slice Ao101 t43.length co101] rfl lm_ ?_;(with_reducible refine (impl_EscapesOf.calls _ _ t40 _ _ t43 t46 _ ?side1 ?side2 ?side3 ?side4 A71.out).mono ?_);(case side1=>exact cc_ (Kd.R_reads' HO42.out).2.2);(case side2=>exact (Kd.R_reads' HO42.out).2.1);(case side3=>exact cc_ (Kd.R_reads' HO45.out).2.2);(case side4=>exact (Kd.R_reads' HO45.out).2.1);rintro e w102 ⟨v47,rfl,ho0,hb⟩;refine ⟨_,rfl,?_⟩;have n0_:=a0_ (Kd.R_elder' (rr_ HO_6.out) (Kd.R_base ho0) hb);have n1_:=a0_ (Kd.R_elder' (rr_ HO_9.out) (Kd.R_base ho0) hb);have n2_:=rb_ Z17 hb;have n3_:=rb_ HO42 hb;have n4_:=rb_ HO45 hb;have n5_:=a0_ (Kd.R_lower (Kd.R_new' (Kd.R_new' ho0 (Kd.R_lt (rr_ HO_6.out))) (Kd.R_lt (rr_ HO_9.out))) (below_size hbw_));have n6_:=kb_ BK1 hb;have n7_:=kb_ BK16 hb;have n8_:=a0_ (below_step hbw_ hb);clear HO_6 HO_9;clear Z17 HO42;clear HO45 BK1;clear BK16 HB;have HO_6:=n0_;have HO_9:=n1_;have Z17:=n2_;have HO42:=n3_;have HO45:=n4_;have HO48:=n5_;have BK1:=n6_;have BK16:=n7_;have HB:=n8_;clear n0_ n1_ n2_ n3_ n4_ n5_ n6_ n7_ n8_;(try clear hb);(try clear ho0);obtain ⟨Ao103,co103,eo103⟩:=Kd.R_slice HO48.out;subst eo103) | ((with_reducible refine gate_callee (f:=26) rfl ?_);refine goesL_ (some 82) rfl rfl Try.func26 (by kernel_rfl) rfl #[.slice Ao103 t46.length co103,.slice Ao50 t10.length co50] rfl lm_ ?_;(with_reducible refine (laws_eqIntS.calls kj28 _ _ t46 _ _ t10 true _ ?side1 ?side2 ?side3 ?side4 A72.out).mono ?_);(case side1=>exact cc_ (Kd.R_reads' HO48.out).2.2);(case side2=>exact (Kd.R_reads' HO48.out).2.1);(case side3=>exact cc_ (Kd.R_reads' HO_6.out).2.2);(case side4=>exact (Kd.R_reads' HO_6.out).2.1);rintro e w' ⟨rfl,⟨nd,rfl⟩⟩;refine ⟨_,rfl,?_⟩) | ((with_reducible refine gate_callee (f:=28) rfl ?_);refine goesL_ (some 86) rfl rfl Try.func28 (by kernel_rfl) rfl #[.slice Ao49 t38.length co49,.int .i64 1] rfl (by (try simp only [List.map_toArray,List.map_cons,List.map_nil]);first | done | (rw [show t38.length = t20.length from (Kd.R_reads' HO_9.out).1.symm] <;> rfl) | rfl | (simp only [List.length_drop,List.length_take];rfl)) ?_;(with_reducible refine (laws_heldIntS.calls kj28 _ _ t38 1 t50 _ ?side1 ?side2 A74.out).mono ?_);(case side1=>exact cc_ (Kd.R_reads' HO_9.out).2.2);(case side2=>rw [show t38.length = t20.length from (Kd.R_reads' HO_9.out).1.symm];exact (Kd.R_reads' HO_9.out).2.1);rintro e w' ⟨rfl,⟨nd,rfl⟩⟩;refine ⟨_,rfl,?_⟩))
              go_ret
              exact ⟨by first | rfl | (simp [errW_none,errW_some] <;> rfl) | (simp [*,errW_none,errW_some] <;> rfl),hbw_⟩
           ·replace c73:=Bool.eq_false_iff.mpr c73
            subst c73
            have H1 : (some false) = some r:=by rw [if_neg (show ¬ (false = true) by decide)] at H;exact H
            clear H
            have H:=H1
            clear H1
            obtain rfl:=Option.some.inj H
            go_wp2_with (first | ((with_reducible refine gate_callee (f:=27) rfl ?_);refine goesL_ (some 66) rfl rfl Try.func27 (by kernel_rfl) rfl #[.slice Ao49 t20.length co49,.int .i64 1] rfl lm_ ?_;(with_reducible refine (laws_markIntS.calls kj28 (fun k_=>some k_ = (.slice Ao49 t20.length co49 : Value).ownBlock) (.slice Ao49 t20.length co49) t20 1 t37 t38 w _ ?side1 ?side2 A64.out).mono ?_);(case side1=>exact hbw_);(case side2=>exact Kd.R_tight rfl HO_9.out);rintro e w104 ⟨rfl,hy0,hb,hkp⟩;refine ⟨_,rfl,?_⟩;have n0_:=a0_ (Kd.R_mono (ok':=fun k_=>some k_ ≠ (.slice Ao49 t20.length co49 : Value).ownBlock) (Kd.R_keptB (HO_6.out) hkp (fun k_ hk_ hs_=>(hk_) hs_)) (fun k_ hk_=>hk_.1));have n1_:=a0_ (Kd.R_reok rfl hy0 (fun k_ e_=>HO_9.out.1 k_ e_));have n2_:=a0_ (Kd.R_mono (ok':=fun k_=>True) (Kd.R_keptB ((Kd.R_apart' Z17.out (Kd.R_typed HO_9.out) (by decide))) hkp (fun k_ hk_ hs_=>(hk_.2) hs_)) (fun k_ hk_=>trivial));have n3_:=a0_ (blk_kept (bb_ BK1.out) hkp (fun hs_=>(fun e_=>(Kd.R_ne HO_9.out BK1.out (by decide)) e_) hs_));have n4_:=a0_ (blk_kept (bb_ BK16.out) hkp (fun hs_=>(fun e_=>(Kd.R_ne HO_9.out BK16.out (by decide)) e_) hs_));have n5_:=a0_ (hb);clear HO_6 HO_9;clear Z17 BK1;clear BK16 HB;have HO_6:=n0_;have HO_9:=n1_;have Z17:=n2_;have BK1:=n3_;have BK16:=n4_;have HB:=n5_;clear n0_ n1_ n2_ n3_ n4_ n5_;(try clear hb);(try clear hkp);(try clear hy0)) | ((with_reducible refine gate_callee (f:=28) rfl ?_);refine goesL_ (some 69) rfl rfl Try.func28 (by kernel_rfl) rfl #[.slice Ao49 t38.length co49,.int .i64 1] rfl (by (try simp only [List.map_toArray,List.map_cons,List.map_nil]);first | done | (rw [show t38.length = t20.length from (Kd.R_reads' HO_9.out).1.symm] <;> rfl) | rfl | (simp only [List.length_drop,List.length_take];rfl)) ?_;(with_reducible refine (laws_heldIntS.calls kj28 _ _ t38 1 t39 _ ?side1 ?side2 A65.out).mono ?_);(case side1=>exact cc_ (Kd.R_reads' HO_9.out).2.2);(case side2=>rw [show t38.length = t20.length from (Kd.R_reads' HO_9.out).1.symm];exact (Kd.R_reads' HO_9.out).2.1);rintro e w' ⟨rfl,⟨nd,rfl⟩⟩;refine ⟨_,rfl,?_⟩;have hnb105:=NB1_16.out;have hnc105:=NB16_1.out;have hcz106_0 : w104.cell? ⟨gb1,0,none⟩ = some (.slice A0_0 l0_0.length c0_0):=(blk_cell BK1.out 0).trans rfl;have hfz106_0:=blk_frozen BK1.out 0) | ((with_reducible refine gate_callee (f:=10) rfl ?_);refine goesL_ (some 76) rfl rfl Try.func10 (by kernel_rfl) rfl #[.agg #[.slice A0_0 l0_0.length c0_0]] rfl lm_ ?_;(with_reducible refine (laws_toTree.calls kj28 _ _ l0_0 t40 _ ?side1 ?side2 A69.out).mono ?_);(case side1=>repeat (first | exact (Kd.C_below HR0_0.out hbw_) | (with_reducible refine Kd.C_alloc ?_ _) | (with_reducible refine Kd.C_drewN ?_ _) | (with_reducible refine Kd.C_drew ?_)));(case side2=>exact HC0_0.out);rintro e w107 ⟨v41,rfl,ho0,hb⟩;refine ⟨_,rfl,?_⟩;have n0_:=rb_ HO_6 hb;have n1_:=rb_ HO_9 hb;have n2_:=a0_ (Kd.R_elder' (rr_ Z17.out) (Kd.R_base ho0) hb);have n3_:=a0_ (Kd.R_lower (Kd.R_new' ho0 (Kd.R_lt (rr_ Z17.out))) (below_size hbw_));have n4_:=kb_ BK1 hb;have n5_:=kb_ BK16 hb;have n6_:=a0_ (below_step hbw_ hb);clear HO_6 HO_9;clear Z17 BK1;clear BK16 HB;have HO_6:=n0_;have HO_9:=n1_;have Z17:=n2_;have HO42:=n3_;have BK1:=n4_;have BK16:=n5_;have HB:=n6_;clear n0_ n1_ n2_ n3_ n4_ n5_ n6_;(try clear hb);(try clear ho0)) | ((with_reducible refine gate_callee (f:=11) rfl ?_);refine goesL_ (some 78) rfl rfl Try.func11 (by kernel_rfl) rfl #[.slice A1 l1.length c1] rfl lm_ ?_;(with_reducible refine (laws_toExitS.calls kj28 _ _ l1 t43 _ ?side1 ?side2 A70.out).mono ?_);(case side1=>exact cc_ (Kd.C_below HR1.out HB.out));(case side2=>exact HC1.out);rintro e w108 ⟨v44,rfl,ho0,hb⟩;refine ⟨_,rfl,?_⟩;replace HO_6:=rb_ HO_6 hb;replace HO_9:=rb_ HO_9 hb;replace Z17:=rb_ Z17 hb;replace HO42:=rb_ HO42 hb;have HO45:=a0_ (Kd.R_lower ho0 (below_size hbw_));replace BK1:=kb_ BK1 hb;replace BK16:=kb_ BK16 hb;replace HB:=a0_ (below_step hbw_ hb);(try clear hb);(try clear ho0);obtain ⟨Ao109,co109,eo109⟩:=Kd.R_slice HO42.out;subst eo109;obtain ⟨Ao110,co110,eo110⟩:=Kd.R_slice HO45.out;subst eo110) | ((with_reducible refine gate_callee (f:=25) rfl ?_);refine goesL_ (some 79) rfl rfl Try.func25 (by kernel_rfl) rfl #[.agg #[.slice Ao109 t40.length co109],.slice Ao110 t43.length co110] rfl lm_ ?_;(with_reducible refine (impl_EscapesOf.calls _ _ t40 _ _ t43 t46 _ ?side1 ?side2 ?side3 ?side4 A71.out).mono ?_);(case side1=>exact cc_ (Kd.R_reads' HO42.out).2.2);(case side2=>exact (Kd.R_reads' HO42.out).2.1);(case side3=>exact cc_ (Kd.R_reads' HO45.out).2.2);(case side4=>exact (Kd.R_reads' HO45.out).2.1);rintro e w111 ⟨v47,rfl,ho0,hb⟩;refine ⟨_,rfl,?_⟩;have n0_:=a0_ (Kd.R_elder' (rr_ HO_6.out) (Kd.R_base ho0) hb);have n1_:=a0_ (Kd.R_elder' (rr_ HO_9.out) (Kd.R_base ho0) hb);have n2_:=rb_ Z17 hb;have n3_:=rb_ HO42 hb;have n4_:=rb_ HO45 hb;have n5_:=a0_ (Kd.R_lower (Kd.R_new' (Kd.R_new' ho0 (Kd.R_lt (rr_ HO_6.out))) (Kd.R_lt (rr_ HO_9.out))) (below_size hbw_));have n6_:=kb_ BK1 hb;have n7_:=kb_ BK16 hb;have n8_:=a0_ (below_step hbw_ hb);clear HO_6 HO_9;clear Z17 HO42;clear HO45 BK1;clear BK16 HB;have HO_6:=n0_;have HO_9:=n1_;have Z17:=n2_;have HO42:=n3_;have HO45:=n4_;have HO48:=n5_;have BK1:=n6_;have BK16:=n7_;have HB:=n8_;clear n0_ n1_ n2_ n3_ n4_ n5_ n6_ n7_ n8_;(try clear hb);(try clear ho0);obtain ⟨Ao112,co112,eo112⟩:=Kd.R_slice HO48.out;subst eo112) | ((with_reducible refine gate_callee (f:=26) rfl ?_);refine goesL_ (some 82) rfl rfl Try.func26 (by kernel_rfl) rfl #[.slice Ao112 t46.length co112,.slice Ao50 t10.length co50] rfl lm_ ?_;(with_reducible refine (laws_eqIntS.calls kj28 _ _ t46 _ _ t10 false _ ?side1 ?side2 ?side3 ?side4 A72.out).mono ?_);(case side1=>exact cc_ (Kd.R_reads' HO48.out).2.2);(case side2=>exact (Kd.R_reads' HO48.out).2.1);(case side3=>exact cc_ (Kd.R_reads' HO_6.out).2.2);(case side4=>exact (Kd.R_reads' HO_6.out).2.1);rintro e w' ⟨rfl,⟨nd,rfl⟩⟩;refine ⟨_,rfl,?_⟩))
            go_ret
            exact ⟨by first | rfl | (simp [errW_none,errW_some] <;> rfl) | (simp [*,errW_none,errW_some] <;> rfl),hbw_⟩
          ·rw [if_neg c68] at H
           have c68b0 : (t39 == t37) = false:=beq_eq_false_iff_ne.mpr c68
           have c68b1 : (t39 != t37) = true:=bne_iff_ne.mpr c68
           obtain rfl:=Option.some.inj H
           go_wp2_with (first | ((with_reducible refine gate_callee (f:=27) rfl ?_);refine goesL_ (some 66) rfl rfl Try.func27 (by kernel_rfl) rfl #[.slice Ao49 t20.length co49,.int .i64 1] rfl lm_ ?_;(with_reducible refine (laws_markIntS.calls kj28 (fun k_=>some k_ = (.slice Ao49 t20.length co49 : Value).ownBlock) (.slice Ao49 t20.length co49) t20 1 t37 t38 w _ ?side1 ?side2 A64.out).mono ?_);(case side1=>exact hbw_);(case side2=>exact Kd.R_tight rfl HO_9.out);rintro e w113 ⟨rfl,hy0,hb,hkp⟩;refine ⟨_,rfl,?_⟩;have n0_:=a0_ (Kd.R_mono (ok':=fun k_=>some k_ ≠ (.slice Ao49 t20.length co49 : Value).ownBlock) (Kd.R_keptB (HO_6.out) hkp (fun k_ hk_ hs_=>(hk_) hs_)) (fun k_ hk_=>hk_.1));have n1_:=a0_ (Kd.R_reok rfl hy0 (fun k_ e_=>HO_9.out.1 k_ e_));have n2_:=a0_ (Kd.R_mono (ok':=fun k_=>True) (Kd.R_keptB ((Kd.R_apart' Z17.out (Kd.R_typed HO_9.out) (by decide))) hkp (fun k_ hk_ hs_=>(hk_.2) hs_)) (fun k_ hk_=>trivial));have n3_:=a0_ (blk_kept (bb_ BK1.out) hkp (fun hs_=>(fun e_=>(Kd.R_ne HO_9.out BK1.out (by decide)) e_) hs_));have n4_:=a0_ (blk_kept (bb_ BK16.out) hkp (fun hs_=>(fun e_=>(Kd.R_ne HO_9.out BK16.out (by decide)) e_) hs_));have n5_:=a0_ (hb);clear HO_6 HO_9;clear Z17 BK1;clear BK16 HB;have HO_6:=n0_;have HO_9:=n1_;have Z17:=n2_;have BK1:=n3_;have BK16:=n4_;have HB:=n5_;clear n0_ n1_ n2_ n3_ n4_ n5_;(try clear hb);(try clear hkp);(try clear hy0)) | ((with_reducible refine gate_callee (f:=28) rfl ?_);refine goesL_ (some 69) rfl rfl Try.func28 (by kernel_rfl) rfl #[.slice Ao49 t38.length co49,.int .i64 1] rfl (by (try simp only [List.map_toArray,List.map_cons,List.map_nil]);first | done | (rw [show t38.length = t20.length from (Kd.R_reads' HO_9.out).1.symm] <;> rfl) | rfl | (simp only [List.length_drop,List.length_take];rfl)) ?_;(with_reducible refine (laws_heldIntS.calls kj28 _ _ t38 1 t39 _ ?side1 ?side2 A65.out).mono ?_);(case side1=>exact cc_ (Kd.R_reads' HO_9.out).2.2);(case side2=>rw [show t38.length = t20.length from (Kd.R_reads' HO_9.out).1.symm];exact (Kd.R_reads' HO_9.out).2.1);rintro e w' ⟨rfl,⟨nd,rfl⟩⟩;refine ⟨_,rfl,?_⟩))
           go_ret
           exact ⟨by first | rfl | (simp [errW_none,errW_some] <;> rfl) | (simp [*,errW_none,errW_some] <;> rfl),hbw_⟩
     ·replace c26:=Bool.eq_false_iff.mpr c26
      subst c26
      have H1 : (some false) = some r:=by rw [if_neg (show ¬ (false = true) by decide)] at H;exact H
      clear H
      have H:=H1
      clear H1
      obtain rfl:=Option.some.inj H
      go_enter Try.func6,Try.ntmps6
      try go_wp2_with (first | ((with_reducible refine gate_dst (N:=2) rfl ?_);refine box_event ?hg (N:=2) ?hd (cs:=#[.slice A0_0 l0_0.length c0_0]) (t:=24) ?hr ?_;(case hd=>rfl);(case hg=>rfl);(case hr=>first | (go_simp;done) | (go_simp;rfl));intro gb1 hg w114 hbox hb;have BK1:=a0_ (hbox);have GW1:=a0_ ((by rw [hg];exact (below_size hbw_) : w.heap.size ≤ gb1));have GE1:=a0_ ((by rw [hg];exact (below_size hbw_) : w.heap.size ≤ gb1));replace HB:=a0_ (below_step hbw_ hb);clear hb hbox hg;have hcz115_0 : w114.cell? ⟨gb1,0,none⟩ = some (.slice A0_0 l0_0.length c0_0):=(blk_cell BK1.out 0).trans rfl;have hfz115_0:=blk_frozen BK1.out 0) | ((with_reducible refine gate_callee (f:=7) rfl ?_);refine goesL_ (some 16) rfl rfl Try.func7 (by kernel_rfl) rfl #[.agg #[.slice A0_0 l0_0.length c0_0],.int .i64 1048576] rfl lm_ ?_;(with_reducible refine (laws_szTree.calls k _ _ l0_0 1048576 t2 _ ?side1 ?side2 A3.out).mono ?_);(case side1=>exact cc_ (Kd.C_below HR0_0.out HB.out));(case side2=>exact HC0_0.out);rintro e w116 ⟨rfl,hb⟩;refine ⟨_,rfl,?_⟩;replace BK1:=kb_ BK1 hb;replace HB:=a0_ (below_step hbw_ hb);(try clear hb);(try clear hb2);(try clear hk);(try clear hi)) | ((with_reducible refine gate_callee (f:=8) rfl ?_);refine goesL_ (some 21) rfl rfl Try.func8 (by kernel_rfl) rfl #[.slice A1 l1.length c1,.int .i64 t2] rfl lm_ ?_;(with_reducible refine (laws_szExitS.calls _ _ l1 t2 t3 _ ?side1 ?side2 A8.out).mono ?_);(case side1=>exact cc_ (Kd.C_below HR1.out HB.out));(case side2=>exact HC1.out);rintro e w' ⟨rfl,⟨nd,rfl⟩⟩;refine ⟨_,rfl,?_⟩;(try (rw [drewN_self w116];generalize hq_ : World.drewN w116 _ = w116;have n0_ : Aside0 (w116.heap[gb1]? = some (.cells #[.slice A0_0 l0_0.length c0_0] 24 (0,0))):=⟨by rw [← hq_];exact (bb_ BK1.out)⟩;have n1_ : Aside0 (Below w.heap.size w w116):=⟨by rw [← hq_];exact hbw_⟩;clear BK1 HB hq_;have BK1:=n0_;have HB:=n1_;clear n0_ n1_));have hcz117_0 : w116.cell? ⟨gb1,0,none⟩ = some (.slice A0_0 l0_0.length c0_0):=(blk_cell BK1.out 0).trans rfl;have hfz117_0:=blk_frozen BK1.out 0) | ((with_reducible refine gate_callee (f:=10) rfl ?_);refine goesL_ (some 25) rfl rfl Try.func10 (by kernel_rfl) rfl #[.agg #[.slice A0_0 l0_0.length c0_0]] rfl lm_ ?_;(with_reducible refine (laws_toTree.calls k _ _ l0_0 t4 _ ?side1 ?side2 A13.out).mono ?_);(case side1=>exact cc_ (Kd.C_below HR0_0.out HB.out));(case side2=>exact HC0_0.out);rintro e w118 ⟨v5,rfl,ho0,hb⟩;refine ⟨_,rfl,?_⟩;have HO6:=a0_ (Kd.R_lower ho0 (below_size hbw_));replace BK1:=kb_ BK1 hb;replace HB:=a0_ (below_step hbw_ hb);(try clear hb);(try clear ho0)) | ((with_reducible refine gate_callee (f:=11) rfl ?_);refine goesL_ (some 27) rfl rfl Try.func11 (by kernel_rfl) rfl #[.slice A1 l1.length c1] rfl lm_ ?_;(with_reducible refine (laws_toExitS.calls k _ _ l1 t7 _ ?side1 ?side2 A14.out).mono ?_);(case side1=>exact cc_ (Kd.C_below HR1.out HB.out));(case side2=>exact HC1.out);rintro e w119 ⟨v8,rfl,ho0,hb⟩;refine ⟨_,rfl,?_⟩;replace HO6:=rb_ HO6 hb;have HO9:=a0_ (Kd.R_lower ho0 (below_size hbw_));replace BK1:=kb_ BK1 hb;replace HB:=a0_ (below_step hbw_ hb);(try clear hb);(try clear ho0);obtain ⟨Ao120,co120,eo120⟩:=Kd.R_slice HO6.out;subst eo120;obtain ⟨Ao121,co121,eo121⟩:=Kd.R_slice HO9.out;subst eo121) | ((with_reducible refine gate_callee (f:=24) rfl ?_);refine goesL_ (some 28) rfl rfl Try.func24 (by kernel_rfl) rfl #[.agg #[.slice Ao120 t4.length co120],.slice Ao121 t7.length co121] rfl lm_ ?_;(with_reducible refine (spec_EscapesOf.calls k _ _ t4 _ _ t7 t10 _ ?side1 ?side2 ?side3 ?side4 A15.out).mono ?_);(case side1=>exact cc_ (Kd.R_reads' HO6.out).2.2);(case side2=>exact (Kd.R_reads' HO6.out).2.1);(case side3=>exact cc_ (Kd.R_reads' HO9.out).2.2);(case side4=>exact (Kd.R_reads' HO9.out).2.1);rintro e w122 ⟨v11,rfl,ho0,hb⟩;refine ⟨_,rfl,?_⟩;replace HO6:=rb_ HO6 hb;replace HO9:=rb_ HO9 hb;have HO12:=a0_ (Kd.R_lower ho0 (below_size hbw_));replace BK1:=kb_ BK1 hb;replace HB:=a0_ (below_step hbw_ hb);(try clear hb);(try clear ho0);have hcz123_0 : w122.cell? ⟨gb1,0,none⟩ = some (.slice A0_0 l0_0.length c0_0):=(blk_cell BK1.out 0).trans rfl;have hfz123_0:=blk_frozen BK1.out 0) | ((with_reducible refine gate_callee (f:=10) rfl ?_);refine goesL_ (some 30) rfl rfl Try.func10 (by kernel_rfl) rfl #[.agg #[.slice A0_0 l0_0.length c0_0]] rfl lm_ ?_;(with_reducible refine (laws_toTree.calls k _ _ l0_0 t13 _ ?side1 ?side2 A16.out).mono ?_);(case side1=>exact cc_ (Kd.C_below HR0_0.out HB.out));(case side2=>exact HC0_0.out);rintro e w124 ⟨v14,rfl,ho0,hb⟩;refine ⟨_,rfl,?_⟩;have n0_:=a0_ (Kd.R_elder' (rr_ HO6.out) (Kd.R_base ho0) hb);have n1_:=rb_ HO9 hb;have n2_:=rb_ HO12 hb;have n3_:=a0_ (Kd.R_lower (Kd.R_new' ho0 (Kd.R_lt (rr_ HO6.out))) (below_size hbw_));have n4_:=kb_ BK1 hb;have n5_:=a0_ (below_step hbw_ hb);clear HO6 HO9;clear HO12 BK1 HB;have HO6:=n0_;have HO9:=n1_;have HO12:=n2_;have HO15:=n3_;have BK1:=n4_;have HB:=n5_;clear n0_ n1_ n2_ n3_ n4_ n5_;(try clear hb);(try clear ho0)) | ((with_reducible refine gate_dst (N:=7) rfl ?_);refine box_event ?hg (N:=7) ?hd (cs:=#[.slice none 0 0]) (t:=35) ?hr ?_;(case hd=>rfl);(case hg=>rfl);(case hr=>first | (go_simp;done) | (go_simp;rfl));intro gb16 hg w125 hbox hb;have n0_:=rb_ HO6 hb;have n1_:=rb_ HO9 hb;have n2_:=rb_ HO12 hb;have n3_:=rb_ HO15 hb;have n4_:=kb_ BK1 hb;have n5_:=a0_ (below_step hbw_ hb);have n6_:=a0_ (hbox);have n7_:=a0_ ((by rw [hg];exact (below_size hbw_) : w.heap.size ≤ gb16));have n8_:=a0_ ((by rw [hg];exact (below_size hbw_) : w.heap.size ≤ gb16));have n9_:=a0_ ((by rw [hg];exact Nat.ne_of_lt (blk_lt (bb_ BK1.out)) : gb1 ≠ gb16));have n10_:=a0_ ((by rw [hg];exact Nat.ne_of_gt (blk_lt (bb_ BK1.out)) : gb16 ≠ gb1));clear HO6 HO9;clear HO12 HO15;clear BK1 HB;have HO6:=n0_;have HO9:=n1_;have HO12:=n2_;have HO15:=n3_;have BK1:=n4_;have HB:=n5_;have BK16:=n6_;have GW16:=n7_;have GE16:=n8_;have NB1_16:=n9_;have NB16_1:=n10_;clear n0_ n1_ n2_ n3_ n4_ n5_ n6_ n7_ n8_ n9_ n10_;clear hb hbox hg;obtain ⟨Ao126,co126,eo126⟩:=Kd.R_slice HO15.out;subst eo126;have hnb127:=NB16_1.out;have hnc127:=NB1_16.out;have hcz128_0 : w125.cell? ⟨gb16,0,none⟩ = some (.slice none 0 0):=(blk_cell BK16.out 0).trans rfl;have hfz128_0:=blk_frozen BK16.out 0) | ((with_reducible refine gate_callee (f:=11) rfl ?_);refine goesL_ (some 32) rfl rfl Try.func11 (by kernel_rfl) rfl #[.slice A1 l1.length c1] rfl lm_ ?_;(with_reducible refine (laws_toExitS.calls k _ _ l1 t17 _ ?side1 ?side2 A17.out).mono ?_);(case side1=>exact Kd.C_below HR1.out hbw_);(case side2=>exact HC1.out);rintro e w129 ⟨v18,rfl,ho0,hb⟩;refine ⟨_,rfl,?_⟩;have n0_:=a0_ (Kd.R_below (by (with_reducible repeat (first | apply Kd.R_alloc | apply Kd.R_drewN | apply Kd.R_drew));exact (Kd.R_mono (Kd.R_far (p:=⟨gb16,0,none⟩) (Kd.R_types HO6.out BK16.out (by decide)) (fun _ hk=>hk.2) (.slice Ao126 t13.length co126)) (fun _ h_=>h_.1))) hb);have n1_:=a0_ (Kd.R_elder' (by (with_reducible repeat (first | apply Kd.R_alloc | apply Kd.R_drewN | apply Kd.R_drew));exact (Kd.R_mono (Kd.R_far (p:=⟨gb16,0,none⟩) (Kd.R_types HO9.out BK16.out (by decide)) (fun _ hk=>hk.2) (.slice Ao126 t13.length co126)) (fun _ h_=>h_.1))) (Kd.R_base ho0) hb);have n2_:=a0_ (Kd.R_below (by (with_reducible repeat (first | apply Kd.R_alloc | apply Kd.R_drewN | apply Kd.R_drew));exact (Kd.R_mono (Kd.R_far (p:=⟨gb16,0,none⟩) (Kd.R_types HO12.out BK16.out (by decide)) (fun _ hk=>hk.2) (.slice Ao126 t13.length co126)) (fun _ h_=>h_.1))) hb);have n3_:=a0_ (Kd.R_below (by (with_reducible repeat (first | apply Kd.R_alloc | apply Kd.R_drewN | apply Kd.R_drew));exact (Kd.R_mono (Kd.R_far (p:=⟨gb16,0,none⟩) (Kd.R_types HO15.out BK16.out (by decide)) (fun _ hk=>hk.2) (.slice Ao126 t13.length co126)) (fun _ h_=>h_.1))) hb);have n4_:=a0_ (Kd.R_lower (Kd.R_new' ho0 (Kd.R_lt (by (with_reducible repeat (first | apply Kd.R_alloc | apply Kd.R_drewN | apply Kd.R_drew));exact (Kd.R_mono (Kd.R_far (p:=⟨gb16,0,none⟩) (Kd.R_types HO9.out BK16.out (by decide)) (fun _ hk=>hk.2) (.slice Ao126 t13.length co126)) (fun _ h_=>h_.1))))) (below_size hbw_));have n5_:=kf_ BK1 NB1_16 hb;have n6_:=a0_ (blk_below (g:=gb16) (o:=.cells #[.slice Ao126 t13.length co126] 35 (0,0)) (by (with_reducible repeat (first | refine blk_drewN ?_ _ | refine blk_drew ?_ | refine blk_alloc ?_ _));refine blk_put (cs:=#[.slice none 0 0]) ?_ 0 _ rfl;(with_reducible repeat (first | refine blk_drewN ?_ _ | refine blk_drew ?_ | refine blk_alloc ?_ _));exact BK16.out) hb);have n7_:=a0_ (below_step hbw_ hb);clear HO6 HO9;clear HO12 HO15;clear BK1 BK16 HB;have HO6:=n0_;have HO9:=n1_;have HO12:=n2_;have HO15:=n3_;have HO19:=n4_;have BK1:=n5_;have BK16:=n6_;have HB:=n7_;clear n0_ n1_ n2_ n3_ n4_ n5_ n6_ n7_;(try clear hb);(try clear ho0);have hcz130_0 : w129.cell? ⟨gb16,0,none⟩ = some (.slice Ao126 t13.length co126):=(blk_cell BK16.out 0).trans rfl;have hfz130_0:=blk_frozen BK16.out 0;obtain ⟨Ao131,co131,eo131⟩:=Kd.R_slice HO19.out;subst eo131) | ((with_reducible refine gate_callee (f:=25) rfl ?_);refine goesL_ (some 35) rfl rfl Try.func25 (by kernel_rfl) rfl #[.agg #[.slice Ao126 t13.length co126],.slice Ao131 t17.length co131] rfl lm_ ?_;(with_reducible refine (impl_EscapesOf.calls _ _ t13 _ _ t17 t20 _ ?side1 ?side2 ?side3 ?side4 A18.out).mono ?_);(case side1=>exact cc_ (Kd.R_reads' HO15.out).2.2);(case side2=>exact (Kd.R_reads' HO15.out).2.1);(case side3=>exact cc_ (Kd.R_reads' HO19.out).2.2);(case side4=>exact (Kd.R_reads' HO19.out).2.1);rintro e w132 ⟨v21,rfl,ho0,hb⟩;refine ⟨_,rfl,?_⟩;have n0_:=rb_ HO6 hb;have n1_:=rb_ HO9 hb;have n2_:=a0_ (Kd.R_elder' (rr_ HO12.out) (Kd.R_base ho0) hb);have n3_:=rb_ HO15 hb;have n4_:=rb_ HO19 hb;have n5_:=a0_ (Kd.R_lower (Kd.R_new' ho0 (Kd.R_lt (rr_ HO12.out))) (below_size hbw_));have n6_:=kb_ BK1 hb;have n7_:=kb_ BK16 hb;have n8_:=a0_ (below_step hbw_ hb);clear HO6 HO9;clear HO12 HO15;clear HO19 BK1;clear BK16 HB;have HO6:=n0_;have HO9:=n1_;have HO12:=n2_;have HO15:=n3_;have HO19:=n4_;have HO22:=n5_;have BK1:=n6_;have BK16:=n7_;have HB:=n8_;clear n0_ n1_ n2_ n3_ n4_ n5_ n6_ n7_ n8_;(try clear hb);(try clear ho0);obtain ⟨Ao133,co133,eo133⟩:=Kd.R_slice HO22.out;subst eo133;obtain ⟨Ao134,co134,eo134⟩:=Kd.R_slice HO12.out;subst eo134) | ((with_reducible refine gate_callee (f:=26) rfl ?_);refine goesL_ (some 38) rfl rfl Try.func26 (by kernel_rfl) rfl #[.slice Ao133 t20.length co133,.slice Ao134 t10.length co134] rfl lm_ ?_;(with_reducible refine (laws_eqIntS.calls k _ _ t20 _ _ t10 true _ ?side1 ?side2 ?side3 ?side4 A19.out).mono ?_);(case side1=>exact cc_ (Kd.R_reads' HO22.out).2.2);(case side2=>exact (Kd.R_reads' HO22.out).2.1);(case side3=>exact cc_ (Kd.R_reads' HO12.out).2.2);(case side4=>exact (Kd.R_reads' HO12.out).2.1);rintro e w' ⟨rfl,⟨nd,rfl⟩⟩;refine ⟨_,rfl,?_⟩))
      (try (rw [drewN_self w132];generalize hq_ : World.drewN w132 _ = w132;have n0_ : Aside0 (Kd.R (Kd.int .i64) 3 w132 w.heap.size (fun k_=>(True ∧ some k_ ≠ (.slice Ao133 t20.length co133 : Value).ownBlock)) (.slice Ao134 t10.length co134) t10):=⟨by rw [← hq_];exact (rr_ HO12.out)⟩;have n1_ : Aside0 (Kd.R k76 76 w132 w.heap.size (fun k_=>(True ∧ some k_ ≠ (.slice Ao120 t4.length co120 : Value).ownBlock)) (.slice Ao126 t13.length co126) t13):=⟨by rw [← hq_];exact (rr_ HO15.out)⟩;have n2_ : Aside0 (Kd.R k38 38 w132 w.heap.size (fun k_=>(True ∧ some k_ ≠ (.slice Ao121 t7.length co121 : Value).ownBlock)) (.slice Ao131 t17.length co131) t17):=⟨by rw [← hq_];exact (rr_ HO19.out)⟩;have n3_ : Aside0 (Kd.R (Kd.int .i64) 3 w132 w.heap.size (fun k_=>(True ∧ some k_ ≠ (.slice Ao134 t10.length co134 : Value).ownBlock)) (.slice Ao133 t20.length co133) t20):=⟨by rw [← hq_];exact (rr_ HO22.out)⟩;have n4_ : Aside0 (Kd.R k76 76 w132 w.heap.size (fun k_=>(True ∧ some k_ ≠ (.slice Ao126 t13.length co126 : Value).ownBlock)) (.slice Ao120 t4.length co120) t4):=⟨by rw [← hq_];exact (rr_ HO6.out)⟩;have n5_ : Aside0 (Kd.R k38 38 w132 w.heap.size (fun k_=>(True ∧ some k_ ≠ (.slice Ao131 t17.length co131 : Value).ownBlock)) (.slice Ao121 t7.length co121) t7):=⟨by rw [← hq_];exact (rr_ HO9.out)⟩;have n6_ : Aside0 (w132.heap[gb1]? = some (.cells #[.slice A0_0 l0_0.length c0_0] 24 (0,0))):=⟨by rw [← hq_];exact (bb_ BK1.out)⟩;have n7_ : Aside0 (w132.heap[gb16]? = some (.cells #[.slice Ao126 t13.length co126] 35 (0,0))):=⟨by rw [← hq_];exact (bb_ BK16.out)⟩;have n8_ : Aside0 (Below w.heap.size w w132):=⟨by rw [← hq_];exact hbw_⟩;clear HO12 HO15 HO19 HO22 HO6 HO9 BK1 BK16 HB hq_;have HO12:=n0_;have HO15:=n1_;have HO19:=n2_;have HO22:=n3_;have HO6:=n4_;have HO9:=n5_;have BK1:=n6_;have BK16:=n7_;have HB:=n8_;clear n0_ n1_ n2_ n3_ n4_ n5_ n6_ n7_ n8_))
      have n0_:=a0_ (Kd.R_drew HO6.out)
      have n1_:=a0_ (Kd.R_drew HO9.out)
      have n2_:=a0_ (Kd.R_drew HO12.out)
      have n3_:=a0_ (Kd.R_drew HO15.out)
      have n4_:=a0_ (Kd.R_drew HO19.out)
      have n5_:=a0_ (Kd.R_drew HO22.out)
      have n6_:=a0_ (blk_drew BK1.out)
      have n7_:=a0_ (blk_drew BK16.out)
      have n8_:=a0_ (below_drew1 HB.out)
      clear HO6
      clear HO9
      clear HO12
      clear HO15
      clear HO19
      clear HO22
      clear BK1
      clear BK16
      clear HB
      have HO6:=n0_
      have HO9:=n1_
      have HO12:=n2_
      have HO15:=n3_
      have HO19:=n4_
      have HO22:=n5_
      have BK1:=n6_
      have BK16:=n7_
      have HB:=n8_
      clear n0_ n1_ n2_ n3_ n4_ n5_ n6_ n7_ n8_
      refine start_ (n:=5) (S:=fun w'=>w'.cell? ⟨gb16,0,none⟩ = some (.slice Ao126 t13.length co126) ∧ w'.cell? ⟨gb1,0,none⟩ = some (.slice A0_0 l0_0.length c0_0)) (ds:=[]) #[false,false,false,false,false] (by kernel_rfl) rfl rfl ⟨(blk_cell BK16.out 0).trans rfl,(blk_cell BK1.out 0).trans rfl⟩ (fun hHeld=>?_)
      generalize w132.drew = w135 at HO6 HO9 HO12 HO15 HO19 HO22 BK1 BK16 HB hHeld ⊢
      refine take_ (i:=0) (N:=some 40) (v:=?_) (a':=?_) #[true,false,false,false,false] rfl rfl (by kernel_rfl) (fun _ _ _ h=>h) (Or.inl ⟨by rfl,?_⟩) hHeld ?_ ?_
      rotate_left
      ·rintro w' ⟨s0,s1⟩
       go_simp
       with_reducible rfl
      rotate_left
      ·simp only [Act.put,s1_,s2_,s3_,i64_w,i32_w]
       rfl
      refine take_ (i:=1) (N:=some 41) (v:=?_) (a':=?_) #[true,true,false,false,false] rfl rfl (by kernel_rfl) (fun _ _ _ h=>h) (Or.inl ⟨by rfl,?_⟩) hHeld ?_ ?_
      rotate_left
      ·rintro w' ⟨s0,s1⟩
       go_simp
       with_reducible rfl
      rotate_left
      ·simp only [Act.put,s1_,s2_,s3_,i64_w,i32_w]
       rfl
      refine one_ (i:=2) (N:=some 42) #[true,true,true,false,false] rfl rfl (by kernel_rfl) (by decide) (fun K hK=>?_)
      refine goes_ Try.func10 (by kernel_rfl) rfl #[.agg #[.slice A0_0 l0_0.length c0_0]] (by rfl) rfl rfl lm_ ?_
      with_reducible refine (laws_toTree.calls k _ _ l0_0 t24 _ ?side1 ?side2 A21.out).mono ?_
      (case side1=>exact cc_ (Kd.C_below HR0_0.out HB.out))
      (case side2=>exact HC0_0.out)
      rintro e w136 ⟨v25,rfl,ho0,hb⟩
      refine ⟨_,rfl,?_⟩
      have n0_:=a0_ (Kd.R_elder' (rr_ HO6.out) (Kd.R_base ho0) hb)
      have n1_:=rb_ HO9 hb
      have n2_:=rb_ HO12 hb
      have n3_:=a0_ (Kd.R_elder' (rr_ HO15.out) (Kd.R_base ho0) hb)
      have n4_:=rb_ HO19 hb
      have n5_:=rb_ HO22 hb
      have n6_:=a0_ (Kd.R_lower (Kd.R_new' (Kd.R_new' ho0 (Kd.R_lt (rr_ HO6.out))) (Kd.R_lt (rr_ HO15.out))) (below_size hbw_))
      have n7_:=kb_ BK1 hb
      have n8_:=kb_ BK16 hb
      have n9_:=a0_ (below_step hbw_ hb)
      clear HO6
      clear HO9
      clear HO12
      clear HO15
      clear HO19
      clear HO22
      clear BK1
      clear BK16
      clear HB
      have HO6:=n0_
      have HO9:=n1_
      have HO12:=n2_
      have HO15:=n3_
      have HO19:=n4_
      have HO22:=n5_
      have HO26:=n6_
      have BK1:=n7_
      have BK16:=n8_
      have HB:=n9_
      clear n0_ n1_ n2_ n3_ n4_ n5_ n6_ n7_ n8_ n9_
      (try clear hb)
      (try clear hb2)
      (try clear hk)
      (try clear hi)
      (try clear ho0)
      obtain ⟨Ao137,co137,eo137⟩:=Kd.R_slice HO26.out
      (first | subst eo137 | (injection eo137 with f1_ f2_ f3_;have f4_:=f1_.symm;have f5_:=f3_.symm;clear f1_ f2_ f3_;subst f4_;subst f5_))
      refine hK.out _ _ ⟨(blk_cell BK16.out 0).trans rfl,(blk_cell BK1.out 0).trans rfl⟩ (fun hHeld=>?_)
      clear hK K
      refine norm_ (a':=?_) ?_ ?_
      rotate_left
      ·show Act.put _ (some 42) _ = _
       simp only [Act.put,s1_,s2_,s3_,i64_w,i32_w]
       rfl
      refine one_ (i:=3) (N:=some 43) #[true,true,true,true,false] rfl rfl (by kernel_rfl) (by decide) (fun K hK=>?_)
      refine goes_ Try.func15 (by kernel_rfl) rfl #[.agg #[.slice Ao126 t13.length co126],.agg #[.slice Ao137 t24.length co137]] (by rfl) rfl rfl lm_ ?_
      with_reducible refine (laws_eqTree.calls k _ _ t13 _ _ t24 true _ ?side1 ?side2 ?side3 ?side4 A22.out).mono ?_
      (case side1=>exact cc_ (Kd.R_reads' HO15.out).2.2)
      (case side2=>exact (Kd.R_reads' HO15.out).2.1)
      (case side3=>exact cc_ (Kd.R_reads' HO26.out).2.2)
      (case side4=>exact (Kd.R_reads' HO26.out).2.1)
      rintro e w138 ⟨rfl,hb⟩
      refine ⟨_,rfl,?_⟩
      have n0_:=rb_ HO6 hb
      have n1_:=rb_ HO9 hb
      have n2_:=rb_ HO12 hb
      have n3_:=rb_ HO15 hb
      have n4_:=rb_ HO19 hb
      have n5_:=rb_ HO22 hb
      have n6_:=rb_ HO26 hb
      have n7_:=kb_ BK1 hb
      have n8_:=kb_ BK16 hb
      have n9_:=a0_ (below_step hbw_ hb)
      clear HO6
      clear HO9
      clear HO12
      clear HO15
      clear HO19
      clear HO22
      clear HO26
      clear BK1
      clear BK16
      clear HB
      have HO6:=n0_
      have HO9:=n1_
      have HO12:=n2_
      have HO15:=n3_
      have HO19:=n4_
      have HO22:=n5_
      have HO26:=n6_
      have BK1:=n7_
      have BK16:=n8_
      have HB:=n9_
      clear n0_ n1_ n2_ n3_ n4_ n5_ n6_ n7_ n8_ n9_
      (try clear hb)
      (try clear hb2)
      (try clear hk)
      (try clear hi)
      refine hK.out _ _ ⟨(blk_cell BK16.out 0).trans rfl,(blk_cell BK1.out 0).trans rfl⟩ (fun hHeld=>?_)
      clear hK K
      refine norm_ (a':=?_) ?_ ?_
      rotate_left
      ·show Act.put _ (some 43) _ = _
       simp only [Act.put,s1_,s2_,s3_,i64_w,i32_w]
       rfl
      refine pure_ (i:=4) (N:=some 44) (v:=?_) (a':=?_) #[true,true,true,true,true] rfl rfl (by kernel_rfl) (fun _ _ _ h=>h) (Or.inl ⟨by rfl,?_⟩) ?_ ?_
      rotate_left
      ·intro w'
       go_simp
       with_reducible rfl
      rotate_left
      ·simp only [Act.put,s1_,s2_,s3_,i64_w,i32_w]
       rfl
      refine done_ (by kernel_rfl) ?_
      try go_wp2_with (first | ((with_reducible refine gate_callee (f:=11) rfl ?_);refine goesL_ (some 47) rfl rfl Try.func11 (by kernel_rfl) rfl #[.slice A1 l1.length c1] rfl lm_ ?_;(with_reducible refine (laws_toExitS.calls k _ _ l1 t28 _ ?side1 ?side2 A24.out).mono ?_);(case side1=>exact cc_ (Kd.C_below HR1.out HB.out));(case side2=>exact HC1.out);rintro e w139 ⟨v29,rfl,ho0,hb⟩;refine ⟨_,rfl,?_⟩;have n0_:=rb_ HO6 hb;have n1_:=a0_ (Kd.R_elder' (rr_ HO9.out) (Kd.R_base ho0) hb);have n2_:=rb_ HO12 hb;have n3_:=rb_ HO15 hb;have n4_:=a0_ (Kd.R_elder' (rr_ HO19.out) (Kd.R_base ho0) hb);have n5_:=rb_ HO22 hb;have n6_:=rb_ HO26 hb;have n7_:=a0_ (Kd.R_lower (Kd.R_new' (Kd.R_new' ho0 (Kd.R_lt (rr_ HO9.out))) (Kd.R_lt (rr_ HO19.out))) (below_size hbw_));have n8_:=kb_ BK1 hb;have n9_:=kb_ BK16 hb;have n10_:=a0_ (below_step hbw_ hb);clear HO6 HO9;clear HO12 HO15;clear HO19 HO22;clear HO26 BK1;clear BK16 HB;have HO6:=n0_;have HO9:=n1_;have HO12:=n2_;have HO15:=n3_;have HO19:=n4_;have HO22:=n5_;have HO26:=n6_;have HO30:=n7_;have BK1:=n8_;have BK16:=n9_;have HB:=n10_;clear n0_ n1_ n2_ n3_ n4_ n5_ n6_ n7_ n8_ n9_ n10_;(try clear hb);(try clear ho0);obtain ⟨Ao140,co140,eo140⟩:=Kd.R_slice HO30.out;subst eo140) | ((with_reducible refine gate_callee (f:=14) rfl ?_);refine goesL_ (some 48) rfl rfl Try.func14 (by kernel_rfl) rfl #[.slice Ao131 t17.length co131,.slice Ao140 t28.length co140] rfl lm_ ?_;(with_reducible refine (laws_eqExitS.calls k _ _ t17 _ _ t28 false _ ?side1 ?side2 ?side3 ?side4 A25.out).mono ?_);(case side1=>exact cc_ (Kd.R_reads' HO19.out).2.2);(case side2=>exact (Kd.R_reads' HO19.out).2.1);(case side3=>exact cc_ (Kd.R_reads' HO30.out).2.2);(case side4=>exact (Kd.R_reads' HO30.out).2.1);rintro e w141 ⟨rfl,hb⟩;refine ⟨_,rfl,?_⟩;replace HO6:=rb_ HO6 hb;replace HO9:=rb_ HO9 hb;replace HO12:=rb_ HO12 hb;replace HO15:=rb_ HO15 hb;replace HO19:=rb_ HO19 hb;replace HO22:=rb_ HO22 hb;replace HO26:=rb_ HO26 hb;replace HO30:=rb_ HO30 hb;replace BK1:=kb_ BK1 hb;replace BK16:=kb_ BK16 hb;replace HB:=a0_ (below_step hbw_ hb);(try clear hb);(try clear hb2);(try clear hk);(try clear hi)))
      go_ret
      exact ⟨by first | rfl | (simp [errW_none,errW_some] <;> rfl) | (simp [*,errW_none,errW_some] <;> rfl),hbw_⟩
    ·replace c23:=Bool.eq_false_iff.mpr c23
     subst c23
     have H1 : (some false) = some r:=by rw [if_neg (show ¬ (false = true) by decide)] at H;exact H
     clear H
     have H:=H1
     clear H1
     obtain rfl:=Option.some.inj H
     go_enter Try.func6,Try.ntmps6
     try go_wp2_with (first | ((with_reducible refine gate_dst (N:=2) rfl ?_);refine box_event ?hg (N:=2) ?hd (cs:=#[.slice A0_0 l0_0.length c0_0]) (t:=24) ?hr ?_;(case hd=>rfl);(case hg=>rfl);(case hr=>first | (go_simp;done) | (go_simp;rfl));intro gb1 hg w142 hbox hb;have BK1:=a0_ (hbox);have GW1:=a0_ ((by rw [hg];exact (below_size hbw_) : w.heap.size ≤ gb1));have GE1:=a0_ ((by rw [hg];exact (below_size hbw_) : w.heap.size ≤ gb1));replace HB:=a0_ (below_step hbw_ hb);clear hb hbox hg;have hcz143_0 : w142.cell? ⟨gb1,0,none⟩ = some (.slice A0_0 l0_0.length c0_0):=(blk_cell BK1.out 0).trans rfl;have hfz143_0:=blk_frozen BK1.out 0) | ((with_reducible refine gate_callee (f:=7) rfl ?_);refine goesL_ (some 16) rfl rfl Try.func7 (by kernel_rfl) rfl #[.agg #[.slice A0_0 l0_0.length c0_0],.int .i64 1048576] rfl lm_ ?_;(with_reducible refine (laws_szTree.calls k _ _ l0_0 1048576 t2 _ ?side1 ?side2 A3.out).mono ?_);(case side1=>exact cc_ (Kd.C_below HR0_0.out HB.out));(case side2=>exact HC0_0.out);rintro e w144 ⟨rfl,hb⟩;refine ⟨_,rfl,?_⟩;replace BK1:=kb_ BK1 hb;replace HB:=a0_ (below_step hbw_ hb);(try clear hb);(try clear hb2);(try clear hk);(try clear hi)) | ((with_reducible refine gate_callee (f:=8) rfl ?_);refine goesL_ (some 21) rfl rfl Try.func8 (by kernel_rfl) rfl #[.slice A1 l1.length c1,.int .i64 t2] rfl lm_ ?_;(with_reducible refine (laws_szExitS.calls _ _ l1 t2 t3 _ ?side1 ?side2 A8.out).mono ?_);(case side1=>exact cc_ (Kd.C_below HR1.out HB.out));(case side2=>exact HC1.out);rintro e w' ⟨rfl,⟨nd,rfl⟩⟩;refine ⟨_,rfl,?_⟩;(try (rw [drewN_self w144];generalize hq_ : World.drewN w144 _ = w144;have n0_ : Aside0 (w144.heap[gb1]? = some (.cells #[.slice A0_0 l0_0.length c0_0] 24 (0,0))):=⟨by rw [← hq_];exact (bb_ BK1.out)⟩;have n1_ : Aside0 (Below w.heap.size w w144):=⟨by rw [← hq_];exact hbw_⟩;clear BK1 HB hq_;have BK1:=n0_;have HB:=n1_;clear n0_ n1_));have hcz145_0 : w144.cell? ⟨gb1,0,none⟩ = some (.slice A0_0 l0_0.length c0_0):=(blk_cell BK1.out 0).trans rfl;have hfz145_0:=blk_frozen BK1.out 0) | ((with_reducible refine gate_callee (f:=10) rfl ?_);refine goesL_ (some 25) rfl rfl Try.func10 (by kernel_rfl) rfl #[.agg #[.slice A0_0 l0_0.length c0_0]] rfl lm_ ?_;(with_reducible refine (laws_toTree.calls k _ _ l0_0 t4 _ ?side1 ?side2 A13.out).mono ?_);(case side1=>exact cc_ (Kd.C_below HR0_0.out HB.out));(case side2=>exact HC0_0.out);rintro e w146 ⟨v5,rfl,ho0,hb⟩;refine ⟨_,rfl,?_⟩;have HO6:=a0_ (Kd.R_lower ho0 (below_size hbw_));replace BK1:=kb_ BK1 hb;replace HB:=a0_ (below_step hbw_ hb);(try clear hb);(try clear ho0)) | ((with_reducible refine gate_callee (f:=11) rfl ?_);refine goesL_ (some 27) rfl rfl Try.func11 (by kernel_rfl) rfl #[.slice A1 l1.length c1] rfl lm_ ?_;(with_reducible refine (laws_toExitS.calls k _ _ l1 t7 _ ?side1 ?side2 A14.out).mono ?_);(case side1=>exact cc_ (Kd.C_below HR1.out HB.out));(case side2=>exact HC1.out);rintro e w147 ⟨v8,rfl,ho0,hb⟩;refine ⟨_,rfl,?_⟩;replace HO6:=rb_ HO6 hb;have HO9:=a0_ (Kd.R_lower ho0 (below_size hbw_));replace BK1:=kb_ BK1 hb;replace HB:=a0_ (below_step hbw_ hb);(try clear hb);(try clear ho0);obtain ⟨Ao148,co148,eo148⟩:=Kd.R_slice HO6.out;subst eo148;obtain ⟨Ao149,co149,eo149⟩:=Kd.R_slice HO9.out;subst eo149) | ((with_reducible refine gate_callee (f:=24) rfl ?_);refine goesL_ (some 28) rfl rfl Try.func24 (by kernel_rfl) rfl #[.agg #[.slice Ao148 t4.length co148],.slice Ao149 t7.length co149] rfl lm_ ?_;(with_reducible refine (spec_EscapesOf.calls k _ _ t4 _ _ t7 t10 _ ?side1 ?side2 ?side3 ?side4 A15.out).mono ?_);(case side1=>exact cc_ (Kd.R_reads' HO6.out).2.2);(case side2=>exact (Kd.R_reads' HO6.out).2.1);(case side3=>exact cc_ (Kd.R_reads' HO9.out).2.2);(case side4=>exact (Kd.R_reads' HO9.out).2.1);rintro e w150 ⟨v11,rfl,ho0,hb⟩;refine ⟨_,rfl,?_⟩;replace HO6:=rb_ HO6 hb;replace HO9:=rb_ HO9 hb;have HO12:=a0_ (Kd.R_lower ho0 (below_size hbw_));replace BK1:=kb_ BK1 hb;replace HB:=a0_ (below_step hbw_ hb);(try clear hb);(try clear ho0);have hcz151_0 : w150.cell? ⟨gb1,0,none⟩ = some (.slice A0_0 l0_0.length c0_0):=(blk_cell BK1.out 0).trans rfl;have hfz151_0:=blk_frozen BK1.out 0) | ((with_reducible refine gate_callee (f:=10) rfl ?_);refine goesL_ (some 30) rfl rfl Try.func10 (by kernel_rfl) rfl #[.agg #[.slice A0_0 l0_0.length c0_0]] rfl lm_ ?_;(with_reducible refine (laws_toTree.calls k _ _ l0_0 t13 _ ?side1 ?side2 A16.out).mono ?_);(case side1=>exact cc_ (Kd.C_below HR0_0.out HB.out));(case side2=>exact HC0_0.out);rintro e w152 ⟨v14,rfl,ho0,hb⟩;refine ⟨_,rfl,?_⟩;have n0_:=a0_ (Kd.R_elder' (rr_ HO6.out) (Kd.R_base ho0) hb);have n1_:=rb_ HO9 hb;have n2_:=rb_ HO12 hb;have n3_:=a0_ (Kd.R_lower (Kd.R_new' ho0 (Kd.R_lt (rr_ HO6.out))) (below_size hbw_));have n4_:=kb_ BK1 hb;have n5_:=a0_ (below_step hbw_ hb);clear HO6 HO9;clear HO12 BK1 HB;have HO6:=n0_;have HO9:=n1_;have HO12:=n2_;have HO15:=n3_;have BK1:=n4_;have HB:=n5_;clear n0_ n1_ n2_ n3_ n4_ n5_;(try clear hb);(try clear ho0)) | ((with_reducible refine gate_dst (N:=7) rfl ?_);refine box_event ?hg (N:=7) ?hd (cs:=#[.slice none 0 0]) (t:=35) ?hr ?_;(case hd=>rfl);(case hg=>rfl);(case hr=>first | (go_simp;done) | (go_simp;rfl));intro gb16 hg w153 hbox hb;have n0_:=rb_ HO6 hb;have n1_:=rb_ HO9 hb;have n2_:=rb_ HO12 hb;have n3_:=rb_ HO15 hb;have n4_:=kb_ BK1 hb;have n5_:=a0_ (below_step hbw_ hb);have n6_:=a0_ (hbox);have n7_:=a0_ ((by rw [hg];exact (below_size hbw_) : w.heap.size ≤ gb16));have n8_:=a0_ ((by rw [hg];exact (below_size hbw_) : w.heap.size ≤ gb16));have n9_:=a0_ ((by rw [hg];exact Nat.ne_of_lt (blk_lt (bb_ BK1.out)) : gb1 ≠ gb16));have n10_:=a0_ ((by rw [hg];exact Nat.ne_of_gt (blk_lt (bb_ BK1.out)) : gb16 ≠ gb1));clear HO6 HO9;clear HO12 HO15;clear BK1 HB;have HO6:=n0_;have HO9:=n1_;have HO12:=n2_;have HO15:=n3_;have BK1:=n4_;have HB:=n5_;have BK16:=n6_;have GW16:=n7_;have GE16:=n8_;have NB1_16:=n9_;have NB16_1:=n10_;clear n0_ n1_ n2_ n3_ n4_ n5_ n6_ n7_ n8_ n9_ n10_;clear hb hbox hg;obtain ⟨Ao154,co154,eo154⟩:=Kd.R_slice HO15.out;subst eo154;have hnb155:=NB16_1.out;have hnc155:=NB1_16.out;have hcz156_0 : w153.cell? ⟨gb16,0,none⟩ = some (.slice none 0 0):=(blk_cell BK16.out 0).trans rfl;have hfz156_0:=blk_frozen BK16.out 0) | ((with_reducible refine gate_callee (f:=11) rfl ?_);refine goesL_ (some 32) rfl rfl Try.func11 (by kernel_rfl) rfl #[.slice A1 l1.length c1] rfl lm_ ?_;(with_reducible refine (laws_toExitS.calls k _ _ l1 t17 _ ?side1 ?side2 A17.out).mono ?_);(case side1=>exact Kd.C_below HR1.out hbw_);(case side2=>exact HC1.out);rintro e w157 ⟨v18,rfl,ho0,hb⟩;refine ⟨_,rfl,?_⟩;have n0_:=a0_ (Kd.R_below (by (with_reducible repeat (first | apply Kd.R_alloc | apply Kd.R_drewN | apply Kd.R_drew));exact (Kd.R_mono (Kd.R_far (p:=⟨gb16,0,none⟩) (Kd.R_types HO6.out BK16.out (by decide)) (fun _ hk=>hk.2) (.slice Ao154 t13.length co154)) (fun _ h_=>h_.1))) hb);have n1_:=a0_ (Kd.R_elder' (by (with_reducible repeat (first | apply Kd.R_alloc | apply Kd.R_drewN | apply Kd.R_drew));exact (Kd.R_mono (Kd.R_far (p:=⟨gb16,0,none⟩) (Kd.R_types HO9.out BK16.out (by decide)) (fun _ hk=>hk.2) (.slice Ao154 t13.length co154)) (fun _ h_=>h_.1))) (Kd.R_base ho0) hb);have n2_:=a0_ (Kd.R_below (by (with_reducible repeat (first | apply Kd.R_alloc | apply Kd.R_drewN | apply Kd.R_drew));exact (Kd.R_mono (Kd.R_far (p:=⟨gb16,0,none⟩) (Kd.R_types HO12.out BK16.out (by decide)) (fun _ hk=>hk.2) (.slice Ao154 t13.length co154)) (fun _ h_=>h_.1))) hb);have n3_:=a0_ (Kd.R_below (by (with_reducible repeat (first | apply Kd.R_alloc | apply Kd.R_drewN | apply Kd.R_drew));exact (Kd.R_mono (Kd.R_far (p:=⟨gb16,0,none⟩) (Kd.R_types HO15.out BK16.out (by decide)) (fun _ hk=>hk.2) (.slice Ao154 t13.length co154)) (fun _ h_=>h_.1))) hb);have n4_:=a0_ (Kd.R_lower (Kd.R_new' ho0 (Kd.R_lt (by (with_reducible repeat (first | apply Kd.R_alloc | apply Kd.R_drewN | apply Kd.R_drew));exact (Kd.R_mono (Kd.R_far (p:=⟨gb16,0,none⟩) (Kd.R_types HO9.out BK16.out (by decide)) (fun _ hk=>hk.2) (.slice Ao154 t13.length co154)) (fun _ h_=>h_.1))))) (below_size hbw_));have n5_:=kf_ BK1 NB1_16 hb;have n6_:=a0_ (blk_below (g:=gb16) (o:=.cells #[.slice Ao154 t13.length co154] 35 (0,0)) (by (with_reducible repeat (first | refine blk_drewN ?_ _ | refine blk_drew ?_ | refine blk_alloc ?_ _));refine blk_put (cs:=#[.slice none 0 0]) ?_ 0 _ rfl;(with_reducible repeat (first | refine blk_drewN ?_ _ | refine blk_drew ?_ | refine blk_alloc ?_ _));exact BK16.out) hb);have n7_:=a0_ (below_step hbw_ hb);clear HO6 HO9;clear HO12 HO15;clear BK1 BK16 HB;have HO6:=n0_;have HO9:=n1_;have HO12:=n2_;have HO15:=n3_;have HO19:=n4_;have BK1:=n5_;have BK16:=n6_;have HB:=n7_;clear n0_ n1_ n2_ n3_ n4_ n5_ n6_ n7_;(try clear hb);(try clear ho0);have hcz158_0 : w157.cell? ⟨gb16,0,none⟩ = some (.slice Ao154 t13.length co154):=(blk_cell BK16.out 0).trans rfl;have hfz158_0:=blk_frozen BK16.out 0;obtain ⟨Ao159,co159,eo159⟩:=Kd.R_slice HO19.out;subst eo159) | ((with_reducible refine gate_callee (f:=25) rfl ?_);refine goesL_ (some 35) rfl rfl Try.func25 (by kernel_rfl) rfl #[.agg #[.slice Ao154 t13.length co154],.slice Ao159 t17.length co159] rfl lm_ ?_;(with_reducible refine (impl_EscapesOf.calls _ _ t13 _ _ t17 t20 _ ?side1 ?side2 ?side3 ?side4 A18.out).mono ?_);(case side1=>exact cc_ (Kd.R_reads' HO15.out).2.2);(case side2=>exact (Kd.R_reads' HO15.out).2.1);(case side3=>exact cc_ (Kd.R_reads' HO19.out).2.2);(case side4=>exact (Kd.R_reads' HO19.out).2.1);rintro e w160 ⟨v21,rfl,ho0,hb⟩;refine ⟨_,rfl,?_⟩;have n0_:=rb_ HO6 hb;have n1_:=rb_ HO9 hb;have n2_:=a0_ (Kd.R_elder' (rr_ HO12.out) (Kd.R_base ho0) hb);have n3_:=rb_ HO15 hb;have n4_:=rb_ HO19 hb;have n5_:=a0_ (Kd.R_lower (Kd.R_new' ho0 (Kd.R_lt (rr_ HO12.out))) (below_size hbw_));have n6_:=kb_ BK1 hb;have n7_:=kb_ BK16 hb;have n8_:=a0_ (below_step hbw_ hb);clear HO6 HO9;clear HO12 HO15;clear HO19 BK1;clear BK16 HB;have HO6:=n0_;have HO9:=n1_;have HO12:=n2_;have HO15:=n3_;have HO19:=n4_;have HO22:=n5_;have BK1:=n6_;have BK16:=n7_;have HB:=n8_;clear n0_ n1_ n2_ n3_ n4_ n5_ n6_ n7_ n8_;(try clear hb);(try clear ho0);obtain ⟨Ao161,co161,eo161⟩:=Kd.R_slice HO22.out;subst eo161;obtain ⟨Ao162,co162,eo162⟩:=Kd.R_slice HO12.out;subst eo162) | ((with_reducible refine gate_callee (f:=26) rfl ?_);refine goesL_ (some 38) rfl rfl Try.func26 (by kernel_rfl) rfl #[.slice Ao161 t20.length co161,.slice Ao162 t10.length co162] rfl lm_ ?_;(with_reducible refine (laws_eqIntS.calls k _ _ t20 _ _ t10 true _ ?side1 ?side2 ?side3 ?side4 A19.out).mono ?_);(case side1=>exact cc_ (Kd.R_reads' HO22.out).2.2);(case side2=>exact (Kd.R_reads' HO22.out).2.1);(case side3=>exact cc_ (Kd.R_reads' HO12.out).2.2);(case side4=>exact (Kd.R_reads' HO12.out).2.1);rintro e w' ⟨rfl,⟨nd,rfl⟩⟩;refine ⟨_,rfl,?_⟩))
     (try (rw [drewN_self w160];generalize hq_ : World.drewN w160 _ = w160;have n0_ : Aside0 (Kd.R (Kd.int .i64) 3 w160 w.heap.size (fun k_=>(True ∧ some k_ ≠ (.slice Ao161 t20.length co161 : Value).ownBlock)) (.slice Ao162 t10.length co162) t10):=⟨by rw [← hq_];exact (rr_ HO12.out)⟩;have n1_ : Aside0 (Kd.R k76 76 w160 w.heap.size (fun k_=>(True ∧ some k_ ≠ (.slice Ao148 t4.length co148 : Value).ownBlock)) (.slice Ao154 t13.length co154) t13):=⟨by rw [← hq_];exact (rr_ HO15.out)⟩;have n2_ : Aside0 (Kd.R k38 38 w160 w.heap.size (fun k_=>(True ∧ some k_ ≠ (.slice Ao149 t7.length co149 : Value).ownBlock)) (.slice Ao159 t17.length co159) t17):=⟨by rw [← hq_];exact (rr_ HO19.out)⟩;have n3_ : Aside0 (Kd.R (Kd.int .i64) 3 w160 w.heap.size (fun k_=>(True ∧ some k_ ≠ (.slice Ao162 t10.length co162 : Value).ownBlock)) (.slice Ao161 t20.length co161) t20):=⟨by rw [← hq_];exact (rr_ HO22.out)⟩;have n4_ : Aside0 (Kd.R k76 76 w160 w.heap.size (fun k_=>(True ∧ some k_ ≠ (.slice Ao154 t13.length co154 : Value).ownBlock)) (.slice Ao148 t4.length co148) t4):=⟨by rw [← hq_];exact (rr_ HO6.out)⟩;have n5_ : Aside0 (Kd.R k38 38 w160 w.heap.size (fun k_=>(True ∧ some k_ ≠ (.slice Ao159 t17.length co159 : Value).ownBlock)) (.slice Ao149 t7.length co149) t7):=⟨by rw [← hq_];exact (rr_ HO9.out)⟩;have n6_ : Aside0 (w160.heap[gb1]? = some (.cells #[.slice A0_0 l0_0.length c0_0] 24 (0,0))):=⟨by rw [← hq_];exact (bb_ BK1.out)⟩;have n7_ : Aside0 (w160.heap[gb16]? = some (.cells #[.slice Ao154 t13.length co154] 35 (0,0))):=⟨by rw [← hq_];exact (bb_ BK16.out)⟩;have n8_ : Aside0 (Below w.heap.size w w160):=⟨by rw [← hq_];exact hbw_⟩;clear HO12 HO15 HO19 HO22 HO6 HO9 BK1 BK16 HB hq_;have HO12:=n0_;have HO15:=n1_;have HO19:=n2_;have HO22:=n3_;have HO6:=n4_;have HO9:=n5_;have BK1:=n6_;have BK16:=n7_;have HB:=n8_;clear n0_ n1_ n2_ n3_ n4_ n5_ n6_ n7_ n8_))
     have n0_:=a0_ (Kd.R_drew HO6.out)
     have n1_:=a0_ (Kd.R_drew HO9.out)
     have n2_:=a0_ (Kd.R_drew HO12.out)
     have n3_:=a0_ (Kd.R_drew HO15.out)
     have n4_:=a0_ (Kd.R_drew HO19.out)
     have n5_:=a0_ (Kd.R_drew HO22.out)
     have n6_:=a0_ (blk_drew BK1.out)
     have n7_:=a0_ (blk_drew BK16.out)
     have n8_:=a0_ (below_drew1 HB.out)
     clear HO6
     clear HO9
     clear HO12
     clear HO15
     clear HO19
     clear HO22
     clear BK1
     clear BK16
     clear HB
     have HO6:=n0_
     have HO9:=n1_
     have HO12:=n2_
     have HO15:=n3_
     have HO19:=n4_
     have HO22:=n5_
     have BK1:=n6_
     have BK16:=n7_
     have HB:=n8_
     clear n0_ n1_ n2_ n3_ n4_ n5_ n6_ n7_ n8_
     refine start_ (n:=5) (S:=fun w'=>w'.cell? ⟨gb16,0,none⟩ = some (.slice Ao154 t13.length co154) ∧ w'.cell? ⟨gb1,0,none⟩ = some (.slice A0_0 l0_0.length c0_0)) (ds:=[]) #[false,false,false,false,false] (by kernel_rfl) rfl rfl ⟨(blk_cell BK16.out 0).trans rfl,(blk_cell BK1.out 0).trans rfl⟩ (fun hHeld=>?_)
     generalize w160.drew = w163 at HO6 HO9 HO12 HO15 HO19 HO22 BK1 BK16 HB hHeld ⊢
     refine take_ (i:=0) (N:=some 40) (v:=?_) (a':=?_) #[true,false,false,false,false] rfl rfl (by kernel_rfl) (fun _ _ _ h=>h) (Or.inl ⟨by rfl,?_⟩) hHeld ?_ ?_
     rotate_left
     ·rintro w' ⟨s0,s1⟩
      go_simp
      with_reducible rfl
     rotate_left
     ·simp only [Act.put,s1_,s2_,s3_,i64_w,i32_w]
      rfl
     refine take_ (i:=1) (N:=some 41) (v:=?_) (a':=?_) #[true,true,false,false,false] rfl rfl (by kernel_rfl) (fun _ _ _ h=>h) (Or.inl ⟨by rfl,?_⟩) hHeld ?_ ?_
     rotate_left
     ·rintro w' ⟨s0,s1⟩
      go_simp
      with_reducible rfl
     rotate_left
     ·simp only [Act.put,s1_,s2_,s3_,i64_w,i32_w]
      rfl
     refine one_ (i:=2) (N:=some 42) #[true,true,true,false,false] rfl rfl (by kernel_rfl) (by decide) (fun K hK=>?_)
     refine goes_ Try.func10 (by kernel_rfl) rfl #[.agg #[.slice A0_0 l0_0.length c0_0]] (by rfl) rfl rfl lm_ ?_
     with_reducible refine (laws_toTree.calls k _ _ l0_0 t24 _ ?side1 ?side2 A21.out).mono ?_
     (case side1=>exact cc_ (Kd.C_below HR0_0.out HB.out))
     (case side2=>exact HC0_0.out)
     rintro e w164 ⟨v25,rfl,ho0,hb⟩
     refine ⟨_,rfl,?_⟩
     have n0_:=a0_ (Kd.R_elder' (rr_ HO6.out) (Kd.R_base ho0) hb)
     have n1_:=rb_ HO9 hb
     have n2_:=rb_ HO12 hb
     have n3_:=a0_ (Kd.R_elder' (rr_ HO15.out) (Kd.R_base ho0) hb)
     have n4_:=rb_ HO19 hb
     have n5_:=rb_ HO22 hb
     have n6_:=a0_ (Kd.R_lower (Kd.R_new' (Kd.R_new' ho0 (Kd.R_lt (rr_ HO6.out))) (Kd.R_lt (rr_ HO15.out))) (below_size hbw_))
     have n7_:=kb_ BK1 hb
     have n8_:=kb_ BK16 hb
     have n9_:=a0_ (below_step hbw_ hb)
     clear HO6
     clear HO9
     clear HO12
     clear HO15
     clear HO19
     clear HO22
     clear BK1
     clear BK16
     clear HB
     have HO6:=n0_
     have HO9:=n1_
     have HO12:=n2_
     have HO15:=n3_
     have HO19:=n4_
     have HO22:=n5_
     have HO26:=n6_
     have BK1:=n7_
     have BK16:=n8_
     have HB:=n9_
     clear n0_ n1_ n2_ n3_ n4_ n5_ n6_ n7_ n8_ n9_
     (try clear hb)
     (try clear hb2)
     (try clear hk)
     (try clear hi)
     (try clear ho0)
     obtain ⟨Ao165,co165,eo165⟩:=Kd.R_slice HO26.out
     (first | subst eo165 | (injection eo165 with f1_ f2_ f3_;have f4_:=f1_.symm;have f5_:=f3_.symm;clear f1_ f2_ f3_;subst f4_;subst f5_))
     refine hK.out _ _ ⟨(blk_cell BK16.out 0).trans rfl,(blk_cell BK1.out 0).trans rfl⟩ (fun hHeld=>?_)
     clear hK K
     refine norm_ (a':=?_) ?_ ?_
     rotate_left
     ·show Act.put _ (some 42) _ = _
      simp only [Act.put,s1_,s2_,s3_,i64_w,i32_w]
      rfl
     refine one_ (i:=3) (N:=some 43) #[true,true,true,true,false] rfl rfl (by kernel_rfl) (by decide) (fun K hK=>?_)
     refine goes_ Try.func15 (by kernel_rfl) rfl #[.agg #[.slice Ao154 t13.length co154],.agg #[.slice Ao165 t24.length co165]] (by rfl) rfl rfl lm_ ?_
     with_reducible refine (laws_eqTree.calls k _ _ t13 _ _ t24 false _ ?side1 ?side2 ?side3 ?side4 A22.out).mono ?_
     (case side1=>exact cc_ (Kd.R_reads' HO15.out).2.2)
     (case side2=>exact (Kd.R_reads' HO15.out).2.1)
     (case side3=>exact cc_ (Kd.R_reads' HO26.out).2.2)
     (case side4=>exact (Kd.R_reads' HO26.out).2.1)
     rintro e w166 ⟨rfl,hb⟩
     refine ⟨_,rfl,?_⟩
     have n0_:=rb_ HO6 hb
     have n1_:=rb_ HO9 hb
     have n2_:=rb_ HO12 hb
     have n3_:=rb_ HO15 hb
     have n4_:=rb_ HO19 hb
     have n5_:=rb_ HO22 hb
     have n6_:=rb_ HO26 hb
     have n7_:=kb_ BK1 hb
     have n8_:=kb_ BK16 hb
     have n9_:=a0_ (below_step hbw_ hb)
     clear HO6
     clear HO9
     clear HO12
     clear HO15
     clear HO19
     clear HO22
     clear HO26
     clear BK1
     clear BK16
     clear HB
     have HO6:=n0_
     have HO9:=n1_
     have HO12:=n2_
     have HO15:=n3_
     have HO19:=n4_
     have HO22:=n5_
     have HO26:=n6_
     have BK1:=n7_
     have BK16:=n8_
     have HB:=n9_
     clear n0_ n1_ n2_ n3_ n4_ n5_ n6_ n7_ n8_ n9_
     (try clear hb)
     (try clear hb2)
     (try clear hk)
     (try clear hi)
     refine hK.out _ _ ⟨(blk_cell BK16.out 0).trans rfl,(blk_cell BK1.out 0).trans rfl⟩ (fun hHeld=>?_)
     clear hK K
     refine norm_ (a':=?_) ?_ ?_
     rotate_left
     ·show Act.put _ (some 43) _ = _
      simp only [Act.put,s1_,s2_,s3_,i64_w,i32_w]
      rfl
     refine pure_ (i:=4) (N:=some 44) (v:=?_) (a':=?_) #[true,true,true,true,true] rfl rfl (by kernel_rfl) (fun _ _ _ h=>h) (Or.inl ⟨by rfl,?_⟩) ?_ ?_
     rotate_left
     ·intro w'
      go_simp
      with_reducible rfl
     rotate_left
     ·simp only [Act.put,s1_,s2_,s3_,i64_w,i32_w]
      rfl
     refine done_ (by kernel_rfl) ?_
     try go_wp2
     go_ret
     exact ⟨by first | rfl | (simp [errW_none,errW_some] <;> rfl) | (simp [*,errW_none,errW_some] <;> rfl),hbw_⟩
   ·replace c20:=Bool.eq_false_iff.mpr c20
    subst c20
    have H1 : (some false) = some r:=by rw [if_neg (show ¬ (false = true) by decide)] at H;exact H
    clear H
    have H:=H1
    clear H1
    obtain rfl:=Option.some.inj H
    go_enter Try.func6,Try.ntmps6
    go_wp2_with (first | ((with_reducible refine gate_dst (N:=2) rfl ?_);refine box_event ?hg (N:=2) ?hd (cs:=#[.slice A0_0 l0_0.length c0_0]) (t:=24) ?hr ?_;(case hd=>rfl);(case hg=>rfl);(case hr=>first | (go_simp;done) | (go_simp;rfl));intro gb1 hg w167 hbox hb;have BK1:=a0_ (hbox);have GW1:=a0_ ((by rw [hg];exact (below_size hbw_) : w.heap.size ≤ gb1));have GE1:=a0_ ((by rw [hg];exact (below_size hbw_) : w.heap.size ≤ gb1));replace HB:=a0_ (below_step hbw_ hb);clear hb hbox hg;have hcz168_0 : w167.cell? ⟨gb1,0,none⟩ = some (.slice A0_0 l0_0.length c0_0):=(blk_cell BK1.out 0).trans rfl;have hfz168_0:=blk_frozen BK1.out 0) | ((with_reducible refine gate_callee (f:=7) rfl ?_);refine goesL_ (some 16) rfl rfl Try.func7 (by kernel_rfl) rfl #[.agg #[.slice A0_0 l0_0.length c0_0],.int .i64 1048576] rfl lm_ ?_;(with_reducible refine (laws_szTree.calls k _ _ l0_0 1048576 t2 _ ?side1 ?side2 A3.out).mono ?_);(case side1=>exact cc_ (Kd.C_below HR0_0.out HB.out));(case side2=>exact HC0_0.out);rintro e w169 ⟨rfl,hb⟩;refine ⟨_,rfl,?_⟩;replace BK1:=kb_ BK1 hb;replace HB:=a0_ (below_step hbw_ hb);(try clear hb);(try clear hb2);(try clear hk);(try clear hi)) | ((with_reducible refine gate_callee (f:=8) rfl ?_);refine goesL_ (some 21) rfl rfl Try.func8 (by kernel_rfl) rfl #[.slice A1 l1.length c1,.int .i64 t2] rfl lm_ ?_;(with_reducible refine (laws_szExitS.calls _ _ l1 t2 t3 _ ?side1 ?side2 A8.out).mono ?_);(case side1=>exact cc_ (Kd.C_below HR1.out HB.out));(case side2=>exact HC1.out);rintro e w' ⟨rfl,⟨nd,rfl⟩⟩;refine ⟨_,rfl,?_⟩;(try (rw [drewN_self w169];generalize hq_ : World.drewN w169 _ = w169;have n0_ : Aside0 (w169.heap[gb1]? = some (.cells #[.slice A0_0 l0_0.length c0_0] 24 (0,0))):=⟨by rw [← hq_];exact (bb_ BK1.out)⟩;have n1_ : Aside0 (Below w.heap.size w w169):=⟨by rw [← hq_];exact hbw_⟩;clear BK1 HB hq_;have BK1:=n0_;have HB:=n1_;clear n0_ n1_));have hcz170_0 : w169.cell? ⟨gb1,0,none⟩ = some (.slice A0_0 l0_0.length c0_0):=(blk_cell BK1.out 0).trans rfl;have hfz170_0:=blk_frozen BK1.out 0) | ((with_reducible refine gate_callee (f:=10) rfl ?_);refine goesL_ (some 25) rfl rfl Try.func10 (by kernel_rfl) rfl #[.agg #[.slice A0_0 l0_0.length c0_0]] rfl lm_ ?_;(with_reducible refine (laws_toTree.calls k _ _ l0_0 t4 _ ?side1 ?side2 A13.out).mono ?_);(case side1=>exact cc_ (Kd.C_below HR0_0.out HB.out));(case side2=>exact HC0_0.out);rintro e w171 ⟨v5,rfl,ho0,hb⟩;refine ⟨_,rfl,?_⟩;have HO6:=a0_ (Kd.R_lower ho0 (below_size hbw_));replace BK1:=kb_ BK1 hb;replace HB:=a0_ (below_step hbw_ hb);(try clear hb);(try clear ho0)) | ((with_reducible refine gate_callee (f:=11) rfl ?_);refine goesL_ (some 27) rfl rfl Try.func11 (by kernel_rfl) rfl #[.slice A1 l1.length c1] rfl lm_ ?_;(with_reducible refine (laws_toExitS.calls k _ _ l1 t7 _ ?side1 ?side2 A14.out).mono ?_);(case side1=>exact cc_ (Kd.C_below HR1.out HB.out));(case side2=>exact HC1.out);rintro e w172 ⟨v8,rfl,ho0,hb⟩;refine ⟨_,rfl,?_⟩;replace HO6:=rb_ HO6 hb;have HO9:=a0_ (Kd.R_lower ho0 (below_size hbw_));replace BK1:=kb_ BK1 hb;replace HB:=a0_ (below_step hbw_ hb);(try clear hb);(try clear ho0);obtain ⟨Ao173,co173,eo173⟩:=Kd.R_slice HO6.out;subst eo173;obtain ⟨Ao174,co174,eo174⟩:=Kd.R_slice HO9.out;subst eo174) | ((with_reducible refine gate_callee (f:=24) rfl ?_);refine goesL_ (some 28) rfl rfl Try.func24 (by kernel_rfl) rfl #[.agg #[.slice Ao173 t4.length co173],.slice Ao174 t7.length co174] rfl lm_ ?_;(with_reducible refine (spec_EscapesOf.calls k _ _ t4 _ _ t7 t10 _ ?side1 ?side2 ?side3 ?side4 A15.out).mono ?_);(case side1=>exact cc_ (Kd.R_reads' HO6.out).2.2);(case side2=>exact (Kd.R_reads' HO6.out).2.1);(case side3=>exact cc_ (Kd.R_reads' HO9.out).2.2);(case side4=>exact (Kd.R_reads' HO9.out).2.1);rintro e w175 ⟨v11,rfl,ho0,hb⟩;refine ⟨_,rfl,?_⟩;replace HO6:=rb_ HO6 hb;replace HO9:=rb_ HO9 hb;have HO12:=a0_ (Kd.R_lower ho0 (below_size hbw_));replace BK1:=kb_ BK1 hb;replace HB:=a0_ (below_step hbw_ hb);(try clear hb);(try clear ho0);have hcz176_0 : w175.cell? ⟨gb1,0,none⟩ = some (.slice A0_0 l0_0.length c0_0):=(blk_cell BK1.out 0).trans rfl;have hfz176_0:=blk_frozen BK1.out 0) | ((with_reducible refine gate_callee (f:=10) rfl ?_);refine goesL_ (some 30) rfl rfl Try.func10 (by kernel_rfl) rfl #[.agg #[.slice A0_0 l0_0.length c0_0]] rfl lm_ ?_;(with_reducible refine (laws_toTree.calls k _ _ l0_0 t13 _ ?side1 ?side2 A16.out).mono ?_);(case side1=>exact cc_ (Kd.C_below HR0_0.out HB.out));(case side2=>exact HC0_0.out);rintro e w177 ⟨v14,rfl,ho0,hb⟩;refine ⟨_,rfl,?_⟩;have n0_:=a0_ (Kd.R_elder' (rr_ HO6.out) (Kd.R_base ho0) hb);have n1_:=rb_ HO9 hb;have n2_:=rb_ HO12 hb;have n3_:=a0_ (Kd.R_lower (Kd.R_new' ho0 (Kd.R_lt (rr_ HO6.out))) (below_size hbw_));have n4_:=kb_ BK1 hb;have n5_:=a0_ (below_step hbw_ hb);clear HO6 HO9;clear HO12 BK1 HB;have HO6:=n0_;have HO9:=n1_;have HO12:=n2_;have HO15:=n3_;have BK1:=n4_;have HB:=n5_;clear n0_ n1_ n2_ n3_ n4_ n5_;(try clear hb);(try clear ho0)) | ((with_reducible refine gate_dst (N:=7) rfl ?_);refine box_event ?hg (N:=7) ?hd (cs:=#[.slice none 0 0]) (t:=35) ?hr ?_;(case hd=>rfl);(case hg=>rfl);(case hr=>first | (go_simp;done) | (go_simp;rfl));intro gb16 hg w178 hbox hb;have n0_:=rb_ HO6 hb;have n1_:=rb_ HO9 hb;have n2_:=rb_ HO12 hb;have n3_:=rb_ HO15 hb;have n4_:=kb_ BK1 hb;have n5_:=a0_ (below_step hbw_ hb);have n6_:=a0_ (hbox);have n7_:=a0_ ((by rw [hg];exact (below_size hbw_) : w.heap.size ≤ gb16));have n8_:=a0_ ((by rw [hg];exact (below_size hbw_) : w.heap.size ≤ gb16));have n9_:=a0_ ((by rw [hg];exact Nat.ne_of_lt (blk_lt (bb_ BK1.out)) : gb1 ≠ gb16));have n10_:=a0_ ((by rw [hg];exact Nat.ne_of_gt (blk_lt (bb_ BK1.out)) : gb16 ≠ gb1));clear HO6 HO9;clear HO12 HO15;clear BK1 HB;have HO6:=n0_;have HO9:=n1_;have HO12:=n2_;have HO15:=n3_;have BK1:=n4_;have HB:=n5_;have BK16:=n6_;have GW16:=n7_;have GE16:=n8_;have NB1_16:=n9_;have NB16_1:=n10_;clear n0_ n1_ n2_ n3_ n4_ n5_ n6_ n7_ n8_ n9_ n10_;clear hb hbox hg;obtain ⟨Ao179,co179,eo179⟩:=Kd.R_slice HO15.out;subst eo179;have hnb180:=NB16_1.out;have hnc180:=NB1_16.out;have hcz181_0 : w178.cell? ⟨gb16,0,none⟩ = some (.slice none 0 0):=(blk_cell BK16.out 0).trans rfl;have hfz181_0:=blk_frozen BK16.out 0) | ((with_reducible refine gate_callee (f:=11) rfl ?_);refine goesL_ (some 32) rfl rfl Try.func11 (by kernel_rfl) rfl #[.slice A1 l1.length c1] rfl lm_ ?_;(with_reducible refine (laws_toExitS.calls k _ _ l1 t17 _ ?side1 ?side2 A17.out).mono ?_);(case side1=>exact Kd.C_below HR1.out hbw_);(case side2=>exact HC1.out);rintro e w182 ⟨v18,rfl,ho0,hb⟩;refine ⟨_,rfl,?_⟩;have n0_:=a0_ (Kd.R_below (by (with_reducible repeat (first | apply Kd.R_alloc | apply Kd.R_drewN | apply Kd.R_drew));exact (Kd.R_mono (Kd.R_far (p:=⟨gb16,0,none⟩) (Kd.R_types HO6.out BK16.out (by decide)) (fun _ hk=>hk.2) (.slice Ao179 t13.length co179)) (fun _ h_=>h_.1))) hb);have n1_:=a0_ (Kd.R_elder' (by (with_reducible repeat (first | apply Kd.R_alloc | apply Kd.R_drewN | apply Kd.R_drew));exact (Kd.R_mono (Kd.R_far (p:=⟨gb16,0,none⟩) (Kd.R_types HO9.out BK16.out (by decide)) (fun _ hk=>hk.2) (.slice Ao179 t13.length co179)) (fun _ h_=>h_.1))) (Kd.R_base ho0) hb);have n2_:=a0_ (Kd.R_below (by (with_reducible repeat (first | apply Kd.R_alloc | apply Kd.R_drewN | apply Kd.R_drew));exact (Kd.R_mono (Kd.R_far (p:=⟨gb16,0,none⟩) (Kd.R_types HO12.out BK16.out (by decide)) (fun _ hk=>hk.2) (.slice Ao179 t13.length co179)) (fun _ h_=>h_.1))) hb);have n3_:=a0_ (Kd.R_below (by (with_reducible repeat (first | apply Kd.R_alloc | apply Kd.R_drewN | apply Kd.R_drew));exact (Kd.R_mono (Kd.R_far (p:=⟨gb16,0,none⟩) (Kd.R_types HO15.out BK16.out (by decide)) (fun _ hk=>hk.2) (.slice Ao179 t13.length co179)) (fun _ h_=>h_.1))) hb);have n4_:=a0_ (Kd.R_lower (Kd.R_new' ho0 (Kd.R_lt (by (with_reducible repeat (first | apply Kd.R_alloc | apply Kd.R_drewN | apply Kd.R_drew));exact (Kd.R_mono (Kd.R_far (p:=⟨gb16,0,none⟩) (Kd.R_types HO9.out BK16.out (by decide)) (fun _ hk=>hk.2) (.slice Ao179 t13.length co179)) (fun _ h_=>h_.1))))) (below_size hbw_));have n5_:=kf_ BK1 NB1_16 hb;have n6_:=a0_ (blk_below (g:=gb16) (o:=.cells #[.slice Ao179 t13.length co179] 35 (0,0)) (by (with_reducible repeat (first | refine blk_drewN ?_ _ | refine blk_drew ?_ | refine blk_alloc ?_ _));refine blk_put (cs:=#[.slice none 0 0]) ?_ 0 _ rfl;(with_reducible repeat (first | refine blk_drewN ?_ _ | refine blk_drew ?_ | refine blk_alloc ?_ _));exact BK16.out) hb);have n7_:=a0_ (below_step hbw_ hb);clear HO6 HO9;clear HO12 HO15;clear BK1 BK16 HB;have HO6:=n0_;have HO9:=n1_;have HO12:=n2_;have HO15:=n3_;have HO19:=n4_;have BK1:=n5_;have BK16:=n6_;have HB:=n7_;clear n0_ n1_ n2_ n3_ n4_ n5_ n6_ n7_;(try clear hb);(try clear ho0);have hcz183_0 : w182.cell? ⟨gb16,0,none⟩ = some (.slice Ao179 t13.length co179):=(blk_cell BK16.out 0).trans rfl;have hfz183_0:=blk_frozen BK16.out 0;obtain ⟨Ao184,co184,eo184⟩:=Kd.R_slice HO19.out;subst eo184) | ((with_reducible refine gate_callee (f:=25) rfl ?_);refine goesL_ (some 35) rfl rfl Try.func25 (by kernel_rfl) rfl #[.agg #[.slice Ao179 t13.length co179],.slice Ao184 t17.length co184] rfl lm_ ?_;(with_reducible refine (impl_EscapesOf.calls _ _ t13 _ _ t17 t20 _ ?side1 ?side2 ?side3 ?side4 A18.out).mono ?_);(case side1=>exact cc_ (Kd.R_reads' HO15.out).2.2);(case side2=>exact (Kd.R_reads' HO15.out).2.1);(case side3=>exact cc_ (Kd.R_reads' HO19.out).2.2);(case side4=>exact (Kd.R_reads' HO19.out).2.1);rintro e w185 ⟨v21,rfl,ho0,hb⟩;refine ⟨_,rfl,?_⟩;have n0_:=rb_ HO6 hb;have n1_:=rb_ HO9 hb;have n2_:=a0_ (Kd.R_elder' (rr_ HO12.out) (Kd.R_base ho0) hb);have n3_:=rb_ HO15 hb;have n4_:=rb_ HO19 hb;have n5_:=a0_ (Kd.R_lower (Kd.R_new' ho0 (Kd.R_lt (rr_ HO12.out))) (below_size hbw_));have n6_:=kb_ BK1 hb;have n7_:=kb_ BK16 hb;have n8_:=a0_ (below_step hbw_ hb);clear HO6 HO9;clear HO12 HO15;clear HO19 BK1;clear BK16 HB;have HO6:=n0_;have HO9:=n1_;have HO12:=n2_;have HO15:=n3_;have HO19:=n4_;have HO22:=n5_;have BK1:=n6_;have BK16:=n7_;have HB:=n8_;clear n0_ n1_ n2_ n3_ n4_ n5_ n6_ n7_ n8_;(try clear hb);(try clear ho0);obtain ⟨Ao186,co186,eo186⟩:=Kd.R_slice HO22.out;subst eo186;obtain ⟨Ao187,co187,eo187⟩:=Kd.R_slice HO12.out;subst eo187) | ((with_reducible refine gate_callee (f:=26) rfl ?_);refine goesL_ (some 38) rfl rfl Try.func26 (by kernel_rfl) rfl #[.slice Ao186 t20.length co186,.slice Ao187 t10.length co187] rfl lm_ ?_;(with_reducible refine (laws_eqIntS.calls k _ _ t20 _ _ t10 false _ ?side1 ?side2 ?side3 ?side4 A19.out).mono ?_);(case side1=>exact cc_ (Kd.R_reads' HO22.out).2.2);(case side2=>exact (Kd.R_reads' HO22.out).2.1);(case side3=>exact cc_ (Kd.R_reads' HO12.out).2.2);(case side4=>exact (Kd.R_reads' HO12.out).2.1);rintro e w' ⟨rfl,⟨nd,rfl⟩⟩;refine ⟨_,rfl,?_⟩))
    go_ret
    exact ⟨by first | rfl | (simp [errW_none,errW_some] <;> rfl) | (simp [*,errW_none,errW_some] <;> rfl),hbw_⟩
end Go.Proofs.Ytjcodcimodnbjaa.P
namespace Go.Proofs.Ytjcodcimodnbjaa.Pure
open Go.RowKit Go.Proofs.Ytjcodcimodnbjaa.P
set_option linter.unusedVariables false
theorem FnExactEscapesOf (l0_0 : List S73) (l1 : List S27) (G0_0 : (l0_0.length ≤ maxLen ∧ ∀ x ∈ l0_0,(x.f0.size ≤ maxLen ∧ (Lit.int .i64 x.f1).wf = true))) (g1 : (l1.length ≤ maxLen ∧ ∀ x ∈ l1,((Lit.int .i64 x.f0).wf = true ∧ (Lit.int .i64 x.f1).wf = true ∧ (Lit.int .i64 x.f2).wf = true))) : ∃ k,laws_FnExactEscapesOf.f k l0_0 l1 = some true:=by
 have hmax : maxLen = 9223372036854775807:=by decide
 rw [hmax] at G0_0 g1
 refine Ev.out (F:=fun k=>laws_FnExactEscapesOf.f k l0_0 l1) ?_
 unfold laws_FnExactEscapesOf.f
 obtain ⟨v0,hv0,hg0⟩:=laws_szTree_ev l0_0 1048576 (by omega) (by omega) G0_0.1 (fun x hx=>(G0_0.2 x hx).1)
 refine Ev.bind hv0 ?_
 by_cases hn0 : v0 < 0
 ·exact Ev.pos hn0 (Ev.const rfl)
 refine Ev.neg hn0 ?_
 obtain ⟨hva0,hl0,hs⟩:=hg0 (by omega)
 obtain ⟨v1,hv1,hg1⟩:=laws_szExitS_ev l1 v0 (by omega) (by omega) g1.1
 refine Ev.bind hv1 ?_
 by_cases hn1 : v1 < 0
 ·exact Ev.pos hn1 (Ev.const rfl)
 refine Ev.neg hn1 ?_
 obtain ⟨hva1,hl1⟩:=hg1 (by omega)
 have hT0:=laws_toTree_ev l0_0 (by omega)
 have hm0 : (l0_0.map toC).length ≤ 1048576:=by rw [List.length_map];omega
 have hT1:=laws_toExitS_ev l1 (by omega)
 have hm1 : (l1.map toExit).length ≤ 1048576:=by rw [List.length_map];omega
 have hsm:=smT_of hs
 have hS : Ev (fun k=>spec_EscapesOf.f k (l0_0.map toC) (l1.map toExit)) (escP (l0_0.map toC) (l1.map toExit)):=spec_EscapesOf_ev (l0_0.map toC) (l1.map toExit) hsm (by omega) (by omega)
 have hG : Ev (fun k=>impl_EscapesOf.f (l0_0.map toC) (l1.map toExit)) (escP (l0_0.map toC) (l1.map toExit)):=Ev.const (impl_EscapesOf_ev (l0_0.map toC) (l1.map toExit) hsm)
 have hrl:=escP_len (l0_0.map toC) (l1.map toExit)
 generalize escP (l0_0.map toC) (l1.map toExit) = r at hS hG hrl
 have hE:=laws_eqIntS_ev r (by omega)
 obtain ⟨l',hM0⟩:=laws_markTree_ev (l0_0.map toC) (1) (by omega) (by omega)
 have hM1:=laws_markExitS_ev (l1.map toExit) (1 + 2 * (l0_0.map toC).length) (by omega) (by omega)
 have hm9:=laws_markIntS_ev r 1 (by omega) (by omega)
 have hh:=laws_heldIntS_ev 1 r.length (by omega) (by omega)
 refine Ev.bind hT0 (Ev.bind hT1 (Ev.bind hS (Ev.bind hT0 (Ev.bind hT1 (Ev.bind hG (Ev.bind hE (Ev.pos rfl ?_)))))))
 refine Ev.bind hT0 (Ev.bind (laws_eqTree_ev _ (by omega)) (Ev.pos rfl (Ev.bind hT1 (Ev.bind (laws_eqExitS_ev _ (by omega)) (Ev.pos rfl ?_)))))
 refine Ev.bind hM0 (Ev.bind hM1 (Ev.neg (by show ¬ (_ < (0 : Int));omega) (Ev.bind hE ?_)))
 refine Ev.succ ?_
 simp only [laws_FnExactEscapesOf.j0]
 refine Ev.neg (by decide) (Ev.bind hm9 (Ev.bind hh (Ev.neg (by omega) (Ev.pos rfl ?_))))
 exact Ev.bind hT0 (Ev.bind hT1 (Ev.bind hG (Ev.bind hE (Ev.pos rfl (Ev.bind hh (Ev.neg (by omega) (Ev.pos rfl (Ev.const rfl))))))))
end Go.Proofs.Ytjcodcimodnbjaa.Pure
