/- Texts under the proof of FnExactSplitGroup: helper words, the functions' contracts and the plain laws. No condition. -/
import Derived.Test.YtdepjpjgecdcjaaQFnExactSplitGroupa
import Derived.Test.YtdepjpjgecdcjaaQFnExactSplitGroupb
import Derived.Test.YtdepjpjgecdcjaaQFnExactSplitGroupc
namespace Go.Proofs.Ytdepjpjgecdcjaa.P
open Go.RowKit Go.Proofs.YtdepjpjgecdcjaaW.PrintWords Go.Proofs.YtdepjpjgecdcjaaW.PrintLast Go.Proofs.YtdepjpjgecdcjaaW.PrintMore
attribute [local go_sem] max2_int min2_int max_two min_two max_three min_three max_four min_four
set_option linter.unusedVariables false
set_option linter.unusedSimpArgs false
mutual
def laws_FnExactSplitGroup.j0 : Nat → List (S65) → Int → List (S63) → List (S63) → List (S63) → List (S63) → List (S63) → Bool → List (S85) → List (S89) → Option (Bool)
 | 0,_,_,_,_,_,_,_,_,_,_=>none
 | k + 1,x1,x2,x8,x9,x11,x12,x13,x58,x2000,x20000=>if x58 = true then (some false) else ((laws_toTree.f k x2000).bind fun t31=>((laws_eqTree.f k x20000 t31).bind fun t34=>(if t34 = true then ((laws_toPartS.f k x1).bind fun t35=>((laws_eqPartS.f k x11 t35).bind fun t38=>(if t38 = true then ((laws_markTree.f k x20000 1).bind fun bt39=>((laws_markPartS.f k x11 bt39.1).bind fun bt41=>(if bt41.1 < 0 then (laws_FnExactSplitGroup.j1 k x1 x2 x8 x9 x12 x13 true x2000) else ((laws_eqPartS.f k x12 x8).bind fun t43=>(if t43 = true then ((laws_eqPartS.f k x13 x9).bind fun t44=>(laws_FnExactSplitGroup.j1 k x1 x2 x8 x9 x12 x13 (!t44) x2000)) else (laws_FnExactSplitGroup.j1 k x1 x2 x8 x9 x12 x13 true x2000)))))) else (some false)))) else (some false))))
def laws_FnExactSplitGroup.j1 : Nat → List (S65) → Int → List (S63) → List (S63) → List (S63) → List (S63) → Bool → List (S85) → Option (Bool)
 | 0,_,_,_,_,_,_,_,_=>none
 | k + 1,x1,x2,x8,x9,x12,x13,x88,x2000=>if x88 = true then (some false) else ((laws_markPartS.f k x12 1).bind fun bt45=>((laws_markPartS.f k x13 bt45.1).bind fun bt47=>((laws_heldPartS.f k bt45.2 1).bind fun t49=>(if t49 < 0 then (some false) else ((laws_heldPartS.f k bt47.2 t49).bind fun t50=>(if t50 < 0 then (some false) else (if t50 = bt47.1 then ((laws_toTree.f k x2000).bind fun t51=>((laws_toPartS.f k x1).bind fun t54=>((impl_SplitGroup.f t51 t54 x2).bind fun bt57=>((laws_eqPartS.f k bt57.1 x8).bind fun t63=>(if t63 = true then ((laws_eqPartS.f k bt57.2 x9).bind fun t64=>(laws_FnExactSplitGroup.j2 k bt45.2 bt47.2 bt47.1 (!t64))) else (laws_FnExactSplitGroup.j2 k bt45.2 bt47.2 bt47.1 true)))))) else (some false))))))))
def laws_FnExactSplitGroup.j2 : Nat → List (S63) → List (S63) → Int → Bool → Option (Bool)
 | 0,_,_,_,_=>none
 | k + 1,x12,x13,x15,x126=>if x126 = true then (some false) else ((laws_heldPartS.f k x12 1).bind fun t65=>(if t65 < 0 then (some false) else ((laws_heldPartS.f k x13 t65).bind fun t66=>(if t66 < 0 then (some false) else (if t66 = x15 then (some true) else (some false))))))
end
def laws_FnExactSplitGroup.f (k : Nat) (l0_0 : List (S85)) (l1 : List (S65)) (a2 : Int) : Option (Bool):=(laws_szTree.f k l0_0 1048576).bind fun t2=>(if t2 < 0 then (some true) else ((laws_szPartS.f l1 t2).bind fun t3=>(if t3 < 0 then (some true) else ((laws_toTree.f k l0_0).bind fun t4=>((laws_toPartS.f k l1).bind fun t7=>((spec_SplitGroup.f k t4 t7 a2).bind fun bt10=>((laws_toTree.f k l0_0).bind fun t16=>((laws_toPartS.f k l1).bind fun t20=>((impl_SplitGroup.f t16 t20 a2).bind fun bt23=>((laws_eqPartS.f k bt23.1 bt10.1).bind fun t29=>(if t29 = true then ((laws_eqPartS.f k bt23.2 bt10.2).bind fun t30=>(laws_FnExactSplitGroup.j0 k l1 a2 bt10.1 bt10.2 t20 bt23.1 bt23.2 (!t30) l0_0 t16)) else (laws_FnExactSplitGroup.j0 k l1 a2 bt10.1 bt10.2 t20 bt23.1 bt23.2 true l0_0 t16))))))))))))
theorem laws_FnExactSplitGroup.mono_l : ∀ k,(∀ y0 y1 y2 y3 y4 y5 y6 y7 y8 y9,LeO (laws_FnExactSplitGroup.j0 k y0 y1 y2 y3 y4 y5 y6 y7 y8 y9) (laws_FnExactSplitGroup.j0 (k + 1) y0 y1 y2 y3 y4 y5 y6 y7 y8 y9)) ∧ (∀ y0 y1 y2 y3 y4 y5 y6 y7,LeO (laws_FnExactSplitGroup.j1 k y0 y1 y2 y3 y4 y5 y6 y7) (laws_FnExactSplitGroup.j1 (k + 1) y0 y1 y2 y3 y4 y5 y6 y7)) ∧ (∀ y0 y1 y2 y3,LeO (laws_FnExactSplitGroup.j2 k y0 y1 y2 y3) (laws_FnExactSplitGroup.j2 (k + 1) y0 y1 y2 y3))
 | 0=>⟨fun _ _ _ _ _ _ _ _ _ _ r h=>by simp [laws_FnExactSplitGroup.j0] at h,fun _ _ _ _ _ _ _ _ r h=>by simp [laws_FnExactSplitGroup.j1] at h,fun _ _ _ _ r h=>by simp [laws_FnExactSplitGroup.j2] at h⟩
 | k + 1=>by
  obtain ⟨ih0,ih1,ih2⟩:=laws_FnExactSplitGroup.mono_l k
  refine ⟨?_,?_,?_⟩
  ·intro y0 y1 y2 y3 y4 y5 y6 y7 y8 y9
   unfold laws_FnExactSplitGroup.j0
   repeat' first
   | (with_reducible exact ih0 _ _ _ _ _ _ _ _ _ _)
   | (with_reducible exact ih1 _ _ _ _ _ _ _ _)
   | (with_reducible exact ih2 _ _ _ _)
   | (with_reducible exact laws_eqPartS.mono _ _ _)
   | (with_reducible exact laws_eqTree.mono _ _ _)
   | (with_reducible exact laws_heldPartS.mono _ _ _)
   | (with_reducible exact laws_markPartS.mono _ _ _)
   | (with_reducible exact laws_markTree.mono _ _ _)
   | (with_reducible exact laws_szTree.mono _ _ _)
   | (with_reducible exact laws_toPartS.mono _ _)
   | (with_reducible exact laws_toTree.mono _ _)
   | (with_reducible exact spec_SplitGroup.mono _ _ _ _)
   | (with_reducible exact LeO.refl _)
   | (with_reducible exact LeO.none _)
   | (with_reducible refine LeO.ite ?_ ?_)
   | (with_reducible refine LeO.bind ?_ (fun _=>?_))
   | exact ih0 _ _ _ _ _ _ _ _ _ _
   | exact ih1 _ _ _ _ _ _ _ _
   | exact ih2 _ _ _ _
   | exact laws_eqPartS.mono _ _ _
   | exact laws_eqTree.mono _ _ _
   | exact laws_heldPartS.mono _ _ _
   | exact laws_markPartS.mono _ _ _
   | exact laws_markTree.mono _ _ _
   | exact laws_szTree.mono _ _ _
   | exact laws_toPartS.mono _ _
   | exact laws_toTree.mono _ _
   | exact spec_SplitGroup.mono _ _ _ _
   | exact LeO.none _
   | refine LeO.ite ?_ ?_
   | refine LeO.bind ?_ (fun _=>?_)
  ·intro y0 y1 y2 y3 y4 y5 y6 y7
   unfold laws_FnExactSplitGroup.j1
   repeat' first
   | (with_reducible exact ih0 _ _ _ _ _ _ _ _ _ _)
   | (with_reducible exact ih1 _ _ _ _ _ _ _ _)
   | (with_reducible exact ih2 _ _ _ _)
   | (with_reducible exact laws_eqPartS.mono _ _ _)
   | (with_reducible exact laws_eqTree.mono _ _ _)
   | (with_reducible exact laws_heldPartS.mono _ _ _)
   | (with_reducible exact laws_markPartS.mono _ _ _)
   | (with_reducible exact laws_markTree.mono _ _ _)
   | (with_reducible exact laws_szTree.mono _ _ _)
   | (with_reducible exact laws_toPartS.mono _ _)
   | (with_reducible exact laws_toTree.mono _ _)
   | (with_reducible exact spec_SplitGroup.mono _ _ _ _)
   | (with_reducible exact LeO.refl _)
   | (with_reducible exact LeO.none _)
   | (with_reducible refine LeO.ite ?_ ?_)
   | (with_reducible refine LeO.bind ?_ (fun _=>?_))
   | exact ih0 _ _ _ _ _ _ _ _ _ _
   | exact ih1 _ _ _ _ _ _ _ _
   | exact ih2 _ _ _ _
   | exact laws_eqPartS.mono _ _ _
   | exact laws_eqTree.mono _ _ _
   | exact laws_heldPartS.mono _ _ _
   | exact laws_markPartS.mono _ _ _
   | exact laws_markTree.mono _ _ _
   | exact laws_szTree.mono _ _ _
   | exact laws_toPartS.mono _ _
   | exact laws_toTree.mono _ _
   | exact spec_SplitGroup.mono _ _ _ _
   | exact LeO.none _
   | refine LeO.ite ?_ ?_
   | refine LeO.bind ?_ (fun _=>?_)
  ·intro y0 y1 y2 y3
   unfold laws_FnExactSplitGroup.j2
   repeat' first
   | (with_reducible exact ih0 _ _ _ _ _ _ _ _ _ _)
   | (with_reducible exact ih1 _ _ _ _ _ _ _ _)
   | (with_reducible exact ih2 _ _ _ _)
   | (with_reducible exact laws_eqPartS.mono _ _ _)
   | (with_reducible exact laws_eqTree.mono _ _ _)
   | (with_reducible exact laws_heldPartS.mono _ _ _)
   | (with_reducible exact laws_markPartS.mono _ _ _)
   | (with_reducible exact laws_markTree.mono _ _ _)
   | (with_reducible exact laws_szTree.mono _ _ _)
   | (with_reducible exact laws_toPartS.mono _ _)
   | (with_reducible exact laws_toTree.mono _ _)
   | (with_reducible exact spec_SplitGroup.mono _ _ _ _)
   | (with_reducible exact LeO.refl _)
   | (with_reducible exact LeO.none _)
   | (with_reducible refine LeO.ite ?_ ?_)
   | (with_reducible refine LeO.bind ?_ (fun _=>?_))
   | exact ih0 _ _ _ _ _ _ _ _ _ _
   | exact ih1 _ _ _ _ _ _ _ _
   | exact ih2 _ _ _ _
   | exact laws_eqPartS.mono _ _ _
   | exact laws_eqTree.mono _ _ _
   | exact laws_heldPartS.mono _ _ _
   | exact laws_markPartS.mono _ _ _
   | exact laws_markTree.mono _ _ _
   | exact laws_szTree.mono _ _ _
   | exact laws_toPartS.mono _ _
   | exact laws_toTree.mono _ _
   | exact spec_SplitGroup.mono _ _ _ _
   | exact LeO.none _
   | refine LeO.ite ?_ ?_
   | refine LeO.bind ?_ (fun _=>?_)
theorem laws_FnExactSplitGroup.mono : ∀ a0 a1 a2 k,LeO (laws_FnExactSplitGroup.f k a0 a1 a2) (laws_FnExactSplitGroup.f (k + 1) a0 a1 a2):=by
 intro a0 a1 a2 k
 obtain ⟨ih0,ih1,ih2⟩:=laws_FnExactSplitGroup.mono_l k
 unfold laws_FnExactSplitGroup.f
 repeat' first
   | (with_reducible exact ih0 _ _ _ _ _ _ _ _ _ _)
   | (with_reducible exact ih1 _ _ _ _ _ _ _ _)
   | (with_reducible exact ih2 _ _ _ _)
   | (with_reducible exact laws_eqPartS.mono _ _ _)
   | (with_reducible exact laws_eqTree.mono _ _ _)
   | (with_reducible exact laws_heldPartS.mono _ _ _)
   | (with_reducible exact laws_markPartS.mono _ _ _)
   | (with_reducible exact laws_markTree.mono _ _ _)
   | (with_reducible exact laws_szTree.mono _ _ _)
   | (with_reducible exact laws_toPartS.mono _ _)
   | (with_reducible exact laws_toTree.mono _ _)
   | (with_reducible exact spec_SplitGroup.mono _ _ _ _)
   | (with_reducible exact LeO.refl _)
   | (with_reducible exact LeO.none _)
   | (with_reducible refine LeO.ite ?_ ?_)
   | (with_reducible refine LeO.bind ?_ (fun _=>?_))
   | exact ih0 _ _ _ _ _ _ _ _ _ _
   | exact ih1 _ _ _ _ _ _ _ _
   | exact ih2 _ _ _ _
   | exact laws_eqPartS.mono _ _ _
   | exact laws_eqTree.mono _ _ _
   | exact laws_heldPartS.mono _ _ _
   | exact laws_markPartS.mono _ _ _
   | exact laws_markTree.mono _ _ _
   | exact laws_szTree.mono _ _ _
   | exact laws_toPartS.mono _ _
   | exact laws_toTree.mono _ _
   | exact spec_SplitGroup.mono _ _ _ _
   | exact LeO.none _
   | refine LeO.ite ?_ ?_
   | refine LeO.bind ?_ (fun _=>?_)
set_option maxHeartbeats 8000000 in
set_option maxRecDepth 100000 in
theorem laws_FnExactSplitGroup.calls (k : Nat) (A0_0 : Option Addr) (c0_0 : Nat) (l0_0 : List (S85)) (A1 : Option Addr) (c1 : Nat) (l1 : List (S65)) (a2 : Int) (r : Bool) (w : World) (hr0_0 : Kd.C k85 w A0_0 l0_0.length l0_0) (hc0_0 : l0_0.length ≤ c0_0) (hr1 : Kd.C k65 w A1 l1.length l1) (hc1 : l1.length ≤ c1) (h : laws_FnExactSplitGroup.f k l0_0 l1 a2 = some r) :
  Calls Try.prog 9 #[.agg #[.slice A0_0 l0_0.length c0_0],.slice A1 l1.length c1,.int .i64 a2] w fun e w'=>e = .returned (.bool r) ∧ Below w.heap.size w w':=by
 have hu24:=Try.underlying24
 have hu31:=Try.underlying31
 have HR0_0:=a0_ hr0_0
 have HC0_0:=a0_ hc0_0
 clear hr0_0 hc0_0
 have HR1:=a0_ hr1
 have HC1:=a0_ hc1
 clear hr1 hc1
 have HB:=a0_ (Below.refl w.heap.size w)
 have H : ((laws_szTree.f k l0_0 1048576).bind fun t2=>(if t2 < 0 then (some true) else ((laws_szPartS.f l1 t2).bind fun t3=>(if t3 < 0 then (some true) else ((laws_toTree.f k l0_0).bind fun t4=>((laws_toPartS.f k l1).bind fun t7=>((spec_SplitGroup.f k t4 t7 a2).bind fun bt10=>((laws_toTree.f k l0_0).bind fun t16=>((laws_toPartS.f k l1).bind fun t20=>((impl_SplitGroup.f t16 t20 a2).bind fun bt23=>((laws_eqPartS.f k bt23.1 bt10.1).bind fun t29=>(if t29 = true then ((laws_eqPartS.f k bt23.2 bt10.2).bind fun t30=>(laws_FnExactSplitGroup.j0 k l1 a2 bt10.1 bt10.2 t20 bt23.1 bt23.2 (!t30) l0_0 t16)) else (laws_FnExactSplitGroup.j0 k l1 a2 bt10.1 bt10.2 t20 bt23.1 bt23.2 true l0_0 t16))))))))))))) = some r:=h
 clear h
 replace H:=Option.bind_eq_some_iff.mp H
 obtain ⟨t2,A40,H⟩:=H
 replace H : (if t2 < 0 then (some true) else ((laws_szPartS.f l1 t2).bind fun t3=>(if t3 < 0 then (some true) else ((laws_toTree.f k l0_0).bind fun t4=>((laws_toPartS.f k l1).bind fun t7=>((spec_SplitGroup.f k t4 t7 a2).bind fun bt10=>((laws_toTree.f k l0_0).bind fun t16=>((laws_toPartS.f k l1).bind fun t20=>((impl_SplitGroup.f t16 t20 a2).bind fun bt23=>((laws_eqPartS.f k bt23.1 bt10.1).bind fun t29=>(if t29 = true then ((laws_eqPartS.f k bt23.2 bt10.2).bind fun t30=>(laws_FnExactSplitGroup.j0 k l1 a2 bt10.1 bt10.2 t20 bt23.1 bt23.2 (!t30) l0_0 t16)) else (laws_FnExactSplitGroup.j0 k l1 a2 bt10.1 bt10.2 t20 bt23.1 bt23.2 true l0_0 t16)))))))))))) = some r:=H
 have A4:=a0_ A40
 clear A40
 by_cases c5 : t2 < 0
 ·rw [if_pos c5] at H
  have c5b0 : decide (t2 < 0) = true:=decide_eq_true c5
  clear c5
  obtain rfl:=Option.some.inj H
  go_enter Try.func9,Try.ntmps9
  go_wp2_with (first | ((with_reducible refine gate_dst (N:=3) rfl ?_);refine box_event ?hg (N:=3) ?hd (cs:=#[.slice A0_0 l0_0.length c0_0]) (t:=24) ?hr ?_;(case hd=>rfl);(case hg=>rfl);(case hr=>first | (go_simp;done) | (go_simp;rfl));intro gb1 hg w6 hbox hb;have BK1:=a0_ (hbox);have GW1:=a0_ ((by rw [hg];exact (below_size hb_) : w.heap.size ≤ gb1));have GE1:=a0_ ((by rw [hg];exact (below_size hb_) : w.heap.size ≤ gb1));replace HB:=a0_ (below_step hb_ hb);clear hb hbox hg;have hcz7_0 : w6.cell? ⟨gb1,0,none⟩ = some (.slice A0_0 l0_0.length c0_0):=(blk_cell BK1.out 0).trans rfl;have hfz7_0:=blk_frozen BK1.out 0) | ((with_reducible refine gate_callee (f:=10) rfl ?_);refine goesL_ (some 21) rfl rfl Try.func10 (by kernel_rfl) rfl #[.agg #[.slice A0_0 l0_0.length c0_0],.int .i64 1048576] rfl lm_ ?_;(with_reducible refine (laws_szTree.calls k _ _ l0_0 1048576 t2 _ ?side1 ?side2 A4.out).mono ?_);(case side1=>exact cc_ (Kd.C_below HR0_0.out HB.out));(case side2=>exact HC0_0.out);rintro e w8 ⟨rfl,hb⟩;refine ⟨_,rfl,?_⟩;replace BK1:=kb_ BK1 hb;replace HB:=a0_ (below_step hb_ hb);(try clear hb);(try clear hb2);(try clear hk);(try clear hi)))
  go_ret
  exact ⟨by first | rfl | (simp [errW_none,errW_some] <;> rfl) | (simp [*,errW_none,errW_some] <;> rfl),hb_⟩
 ·rw [if_neg c5] at H
  have c5b0 : decide (t2 < 0) = false:=decide_eq_false c5
  clear c5
  replace H:=Option.bind_eq_some_iff.mp H
  obtain ⟨t3,A90,H⟩:=H
  replace H : (if t3 < 0 then (some true) else ((laws_toTree.f k l0_0).bind fun t4=>((laws_toPartS.f k l1).bind fun t7=>((spec_SplitGroup.f k t4 t7 a2).bind fun bt10=>((laws_toTree.f k l0_0).bind fun t16=>((laws_toPartS.f k l1).bind fun t20=>((impl_SplitGroup.f t16 t20 a2).bind fun bt23=>((laws_eqPartS.f k bt23.1 bt10.1).bind fun t29=>(if t29 = true then ((laws_eqPartS.f k bt23.2 bt10.2).bind fun t30=>(laws_FnExactSplitGroup.j0 k l1 a2 bt10.1 bt10.2 t20 bt23.1 bt23.2 (!t30) l0_0 t16)) else (laws_FnExactSplitGroup.j0 k l1 a2 bt10.1 bt10.2 t20 bt23.1 bt23.2 true l0_0 t16)))))))))) = some r:=H
  have A9:=a0_ A90
  clear A90
  by_cases c10 : t3 < 0
  ·rw [if_pos c10] at H
   have c10b0 : decide (t3 < 0) = true:=decide_eq_true c10
   clear c10
   obtain rfl:=Option.some.inj H
   go_enter Try.func9,Try.ntmps9
   go_wp2_with (first | ((with_reducible refine gate_dst (N:=3) rfl ?_);refine box_event ?hg (N:=3) ?hd (cs:=#[.slice A0_0 l0_0.length c0_0]) (t:=24) ?hr ?_;(case hd=>rfl);(case hg=>rfl);(case hr=>first | (go_simp;done) | (go_simp;rfl));intro gb1 hg w11 hbox hb;have BK1:=a0_ (hbox);have GW1:=a0_ ((by rw [hg];exact (below_size hb_) : w.heap.size ≤ gb1));have GE1:=a0_ ((by rw [hg];exact (below_size hb_) : w.heap.size ≤ gb1));replace HB:=a0_ (below_step hb_ hb);clear hb hbox hg;have hcz12_0 : w11.cell? ⟨gb1,0,none⟩ = some (.slice A0_0 l0_0.length c0_0):=(blk_cell BK1.out 0).trans rfl;have hfz12_0:=blk_frozen BK1.out 0) | ((with_reducible refine gate_callee (f:=10) rfl ?_);refine goesL_ (some 21) rfl rfl Try.func10 (by kernel_rfl) rfl #[.agg #[.slice A0_0 l0_0.length c0_0],.int .i64 1048576] rfl lm_ ?_;(with_reducible refine (laws_szTree.calls k _ _ l0_0 1048576 t2 _ ?side1 ?side2 A4.out).mono ?_);(case side1=>exact cc_ (Kd.C_below HR0_0.out HB.out));(case side2=>exact HC0_0.out);rintro e w13 ⟨rfl,hb⟩;refine ⟨_,rfl,?_⟩;replace BK1:=kb_ BK1 hb;replace HB:=a0_ (below_step hb_ hb);(try clear hb);(try clear hb2);(try clear hk);(try clear hi)) | ((with_reducible refine gate_callee (f:=11) rfl ?_);refine goesL_ (some 26) rfl rfl Try.func11 (by kernel_rfl) rfl #[.slice A1 l1.length c1,.int .i64 t2] rfl lm_ ?_;(with_reducible refine (laws_szPartS.calls _ _ l1 t2 t3 _ ?side1 ?side2 A9.out).mono ?_);(case side1=>exact cc_ (Kd.C_below HR1.out HB.out));(case side2=>exact HC1.out);rintro e w' ⟨rfl,⟨nd,rfl⟩⟩;refine ⟨_,rfl,?_⟩))
   go_ret
   exact ⟨by first | rfl | (simp [errW_none,errW_some] <;> rfl) | (simp [*,errW_none,errW_some] <;> rfl),hb_⟩
  ·rw [if_neg c10] at H
   have c10b0 : decide (t3 < 0) = false:=decide_eq_false c10
   clear c10
   replace H:=Option.bind_eq_some_iff.mp H
   obtain ⟨t4,A140,H⟩:=H
   replace H : ((laws_toPartS.f k l1).bind fun t7=>((spec_SplitGroup.f k t4 t7 a2).bind fun bt10=>((laws_toTree.f k l0_0).bind fun t16=>((laws_toPartS.f k l1).bind fun t20=>((impl_SplitGroup.f t16 t20 a2).bind fun bt23=>((laws_eqPartS.f k bt23.1 bt10.1).bind fun t29=>(if t29 = true then ((laws_eqPartS.f k bt23.2 bt10.2).bind fun t30=>(laws_FnExactSplitGroup.j0 k l1 a2 bt10.1 bt10.2 t20 bt23.1 bt23.2 (!t30) l0_0 t16)) else (laws_FnExactSplitGroup.j0 k l1 a2 bt10.1 bt10.2 t20 bt23.1 bt23.2 true l0_0 t16)))))))) = some r:=H
   have A14:=a0_ A140
   clear A140
   replace H:=Option.bind_eq_some_iff.mp H
   obtain ⟨t7,A150,H⟩:=H
   replace H : ((spec_SplitGroup.f k t4 t7 a2).bind fun bt10=>((laws_toTree.f k l0_0).bind fun t16=>((laws_toPartS.f k l1).bind fun t20=>((impl_SplitGroup.f t16 t20 a2).bind fun bt23=>((laws_eqPartS.f k bt23.1 bt10.1).bind fun t29=>(if t29 = true then ((laws_eqPartS.f k bt23.2 bt10.2).bind fun t30=>(laws_FnExactSplitGroup.j0 k l1 a2 bt10.1 bt10.2 t20 bt23.1 bt23.2 (!t30) l0_0 t16)) else (laws_FnExactSplitGroup.j0 k l1 a2 bt10.1 bt10.2 t20 bt23.1 bt23.2 true l0_0 t16))))))) = some r:=H
   have A15:=a0_ A150
   clear A150
   replace H:=Option.bind_eq_some_iff.mp H
   obtain ⟨⟨t10,t13⟩,A160,H⟩:=H
   replace H : ((laws_toTree.f k l0_0).bind fun t16=>((laws_toPartS.f k l1).bind fun t20=>((impl_SplitGroup.f t16 t20 a2).bind fun bt23=>((laws_eqPartS.f k bt23.1 t10).bind fun t29=>(if t29 = true then ((laws_eqPartS.f k bt23.2 t13).bind fun t30=>(laws_FnExactSplitGroup.j0 k l1 a2 t10 t13 t20 bt23.1 bt23.2 (!t30) l0_0 t16)) else (laws_FnExactSplitGroup.j0 k l1 a2 t10 t13 t20 bt23.1 bt23.2 true l0_0 t16)))))) = some r:=H
   have A16:=a0_ A160
   clear A160
   replace H:=Option.bind_eq_some_iff.mp H
   obtain ⟨t16,A170,H⟩:=H
   replace H : ((laws_toPartS.f k l1).bind fun t20=>((impl_SplitGroup.f t16 t20 a2).bind fun bt23=>((laws_eqPartS.f k bt23.1 t10).bind fun t29=>(if t29 = true then ((laws_eqPartS.f k bt23.2 t13).bind fun t30=>(laws_FnExactSplitGroup.j0 k l1 a2 t10 t13 t20 bt23.1 bt23.2 (!t30) l0_0 t16)) else (laws_FnExactSplitGroup.j0 k l1 a2 t10 t13 t20 bt23.1 bt23.2 true l0_0 t16))))) = some r:=H
   have A17:=a0_ A170
   clear A170
   replace H:=Option.bind_eq_some_iff.mp H
   obtain ⟨t20,A180,H⟩:=H
   replace H : ((impl_SplitGroup.f t16 t20 a2).bind fun bt23=>((laws_eqPartS.f k bt23.1 t10).bind fun t29=>(if t29 = true then ((laws_eqPartS.f k bt23.2 t13).bind fun t30=>(laws_FnExactSplitGroup.j0 k l1 a2 t10 t13 t20 bt23.1 bt23.2 (!t30) l0_0 t16)) else (laws_FnExactSplitGroup.j0 k l1 a2 t10 t13 t20 bt23.1 bt23.2 true l0_0 t16)))) = some r:=H
   have A18:=a0_ A180
   clear A180
   replace H:=Option.bind_eq_some_iff.mp H
   obtain ⟨⟨t23,t26⟩,A190,H⟩:=H
   replace H : ((laws_eqPartS.f k t23 t10).bind fun t29=>(if t29 = true then ((laws_eqPartS.f k t26 t13).bind fun t30=>(laws_FnExactSplitGroup.j0 k l1 a2 t10 t13 t20 t23 t26 (!t30) l0_0 t16)) else (laws_FnExactSplitGroup.j0 k l1 a2 t10 t13 t20 t23 t26 true l0_0 t16))) = some r:=H
   have A19:=a0_ A190
   clear A190
   have HC20:=a0_ H
   clear H
   go_enter Try.func9,Try.ntmps9
   go_upto_region 12 with (first | ((with_reducible refine gate_dst (N:=3) rfl ?_);refine box_event ?hg (N:=3) ?hd (cs:=#[.slice A0_0 l0_0.length c0_0]) (t:=24) ?hr ?_;(case hd=>rfl);(case hg=>rfl);(case hr=>first | (go_simp;done) | (go_simp;rfl));intro gb1 hg w21 hbox hb;have BK1:=a0_ (hbox);have GW1:=a0_ ((by rw [hg];exact (below_size hb_) : w.heap.size ≤ gb1));have GE1:=a0_ ((by rw [hg];exact (below_size hb_) : w.heap.size ≤ gb1));replace HB:=a0_ (below_step hb_ hb);clear hb hbox hg;have hcz22_0 : w21.cell? ⟨gb1,0,none⟩ = some (.slice A0_0 l0_0.length c0_0):=(blk_cell BK1.out 0).trans rfl;have hfz22_0:=blk_frozen BK1.out 0) | ((with_reducible refine gate_callee (f:=10) rfl ?_);refine goesL_ (some 21) rfl rfl Try.func10 (by kernel_rfl) rfl #[.agg #[.slice A0_0 l0_0.length c0_0],.int .i64 1048576] rfl lm_ ?_;(with_reducible refine (laws_szTree.calls k _ _ l0_0 1048576 t2 _ ?side1 ?side2 A4.out).mono ?_);(case side1=>exact cc_ (Kd.C_below HR0_0.out HB.out));(case side2=>exact HC0_0.out);rintro e w23 ⟨rfl,hb⟩;refine ⟨_,rfl,?_⟩;replace BK1:=kb_ BK1 hb;replace HB:=a0_ (below_step hb_ hb);(try clear hb);(try clear hb2);(try clear hk);(try clear hi)) | ((with_reducible refine gate_callee (f:=11) rfl ?_);refine goesL_ (some 26) rfl rfl Try.func11 (by kernel_rfl) rfl #[.slice A1 l1.length c1,.int .i64 t2] rfl lm_ ?_;(with_reducible refine (laws_szPartS.calls _ _ l1 t2 t3 _ ?side1 ?side2 A9.out).mono ?_);(case side1=>exact cc_ (Kd.C_below HR1.out HB.out));(case side2=>exact HC1.out);rintro e w' ⟨rfl,⟨nd,rfl⟩⟩;refine ⟨_,rfl,?_⟩;(try (rw [drewN_self w23];generalize hq_ : World.drewN w23 _ = w23;have n0_ : Aside0 (w23.heap[gb1]? = some (.cells #[.slice A0_0 l0_0.length c0_0] 24 (0,0))):=⟨by rw [← hq_];exact (bb_ BK1.out)⟩;have n1_ : Aside0 (Below w.heap.size w w23):=⟨by rw [← hq_];exact hb_⟩;clear BK1 HB hq_;have BK1:=n0_;have HB:=n1_;clear n0_ n1_));have hcz24_0 : w23.cell? ⟨gb1,0,none⟩ = some (.slice A0_0 l0_0.length c0_0):=(blk_cell BK1.out 0).trans rfl;have hfz24_0:=blk_frozen BK1.out 0) | ((with_reducible refine gate_callee (f:=13) rfl ?_);refine goesL_ (some 31) rfl rfl Try.func13 (by kernel_rfl) rfl #[.agg #[.slice A0_0 l0_0.length c0_0]] rfl lm_ ?_;(with_reducible refine (laws_toTree.calls k _ _ l0_0 t4 _ ?side1 ?side2 A14.out).mono ?_);(case side1=>exact cc_ (Kd.C_below HR0_0.out HB.out));(case side2=>exact HC0_0.out);rintro e w25 ⟨v5,rfl,ho0,hb⟩;refine ⟨_,rfl,?_⟩;have HO6:=a0_ (Kd.R_lower ho0 (below_size hb_));replace BK1:=kb_ BK1 hb;replace HB:=a0_ (below_step hb_ hb);(try clear hb);(try clear ho0)) | ((with_reducible refine gate_callee (f:=14) rfl ?_);refine goesL_ (some 33) rfl rfl Try.func14 (by kernel_rfl) rfl #[.slice A1 l1.length c1] rfl lm_ ?_;(with_reducible refine (laws_toPartS.calls k _ _ l1 t7 _ ?side1 ?side2 A15.out).mono ?_);(case side1=>exact cc_ (Kd.C_below HR1.out HB.out));(case side2=>exact HC1.out);rintro e w26 ⟨v8,rfl,ho0,hb⟩;refine ⟨_,rfl,?_⟩;replace HO6:=rb_ HO6 hb;have HO9:=a0_ (Kd.R_lower ho0 (below_size hb_));replace BK1:=kb_ BK1 hb;replace HB:=a0_ (below_step hb_ hb);(try clear hb);(try clear ho0);obtain ⟨Ao27,co27,eo27⟩:=Kd.R_slice HO6.out;subst eo27;obtain ⟨Ao28,co28,eo28⟩:=Kd.R_slice HO9.out;subst eo28) | ((with_reducible refine gate_callee (f:=39) rfl ?_);refine goesL_ (some 35) rfl rfl Try.func39 (by kernel_rfl) rfl #[.agg #[.slice Ao27 t4.length co27],.slice Ao28 t7.length co28,.int .i64 a2] rfl lm_ ?_;(with_reducible refine (spec_SplitGroup.calls k _ _ t4 _ _ t7 a2 t10 t13 _ ?side1 ?side2 ?side3 ?side4 A16.out).mono ?_);(case side1=>exact cc_ (Kd.R_reads' HO6.out).2.2);(case side2=>exact (Kd.R_reads' HO6.out).2.1);(case side3=>exact cc_ (Kd.R_reads' HO9.out).2.2);(case side4=>exact (Kd.R_reads' HO9.out).2.1);rintro e w29 ⟨v11,v14,rfl,ho0,ho1,hb⟩;refine ⟨_,rfl,?_⟩;have n0_:=rb_ HO6 hb;have n1_:=a0_ (Kd.R_mono (Kd.R_told (Kd.R_told (Kd.R_old (rr_ HO9.out) hb) (Kd.R_base ho0)) (Kd.R_base ho1)) (fun _ h_=>h_.1));have n2_:=a0_ (Kd.R_lower (Kd.R_new' ho0 (Kd.R_lt (rr_ HO9.out))) (below_size hb_));have n3_:=a0_ (Kd.R_lower (Kd.R_new' ho1 (Kd.R_lt (rr_ HO9.out))) (below_size hb_));have n4_:=kb_ BK1 hb;have n5_:=a0_ (below_step hb_ hb);clear HO6 HO9;clear BK1 HB;have HO6:=n0_;have HO9:=n1_;have HO12:=n2_;have HO15:=n3_;have BK1:=n4_;have HB:=n5_;clear n0_ n1_ n2_ n3_ n4_ n5_;(try clear hb);(try clear ho0);(try clear ho1);have hcz30_0 : w29.cell? ⟨gb1,0,none⟩ = some (.slice A0_0 l0_0.length c0_0):=(blk_cell BK1.out 0).trans rfl;have hfz30_0:=blk_frozen BK1.out 0) | ((with_reducible refine gate_callee (f:=13) rfl ?_);refine goesL_ (some 39) rfl rfl Try.func13 (by kernel_rfl) rfl #[.agg #[.slice A0_0 l0_0.length c0_0]] rfl lm_ ?_;(with_reducible refine (laws_toTree.calls k _ _ l0_0 t16 _ ?side1 ?side2 A17.out).mono ?_);(case side1=>exact cc_ (Kd.C_below HR0_0.out HB.out));(case side2=>exact HC0_0.out);rintro e w31 ⟨v17,rfl,ho0,hb⟩;refine ⟨_,rfl,?_⟩;have n0_:=a0_ (Kd.R_elder' (rr_ HO6.out) (Kd.R_base ho0) hb);have n1_:=rb_ HO9 hb;have n2_:=rb_ HO12 hb;have n3_:=rb_ HO15 hb;have n4_:=a0_ (Kd.R_lower (Kd.R_new' ho0 (Kd.R_lt (rr_ HO6.out))) (below_size hb_));have n5_:=kb_ BK1 hb;have n6_:=a0_ (below_step hb_ hb);clear HO6 HO9;clear HO12 HO15;clear BK1 HB;have HO6:=n0_;have HO9:=n1_;have HO12:=n2_;have HO15:=n3_;have HO18:=n4_;have BK1:=n5_;have HB:=n6_;clear n0_ n1_ n2_ n3_ n4_ n5_ n6_;(try clear hb);(try clear ho0)) | ((with_reducible refine gate_dst (N:=10) rfl ?_);refine box_event ?hg (N:=10) ?hd (cs:=#[.slice none 0 0]) (t:=31) ?hr ?_;(case hd=>rfl);(case hg=>rfl);(case hr=>first | (go_simp;done) | (go_simp;rfl));intro gb19 hg w32 hbox hb;have n0_:=rb_ HO6 hb;have n1_:=rb_ HO9 hb;have n2_:=rb_ HO12 hb;have n3_:=rb_ HO15 hb;have n4_:=rb_ HO18 hb;have n5_:=kb_ BK1 hb;have n6_:=a0_ (below_step hb_ hb);have n7_:=a0_ (hbox);have n8_:=a0_ ((by rw [hg];exact (below_size hb_) : w.heap.size ≤ gb19));have n9_:=a0_ ((by rw [hg];exact (below_size hb_) : w.heap.size ≤ gb19));have n10_:=a0_ ((by rw [hg];exact Nat.ne_of_lt (blk_lt (bb_ BK1.out)) : gb1 ≠ gb19));have n11_:=a0_ ((by rw [hg];exact Nat.ne_of_gt (blk_lt (bb_ BK1.out)) : gb19 ≠ gb1));clear HO6 HO9;clear HO12 HO15;clear HO18 BK1 HB;have HO6:=n0_;have HO9:=n1_;have HO12:=n2_;have HO15:=n3_;have HO18:=n4_;have BK1:=n5_;have HB:=n6_;have BK19:=n7_;have GW19:=n8_;have GE19:=n9_;have NB1_19:=n10_;have NB19_1:=n11_;clear n0_ n1_ n2_ n3_ n4_ n5_ n6_ n7_ n8_ n9_ n10_ n11_;clear hb hbox hg;obtain ⟨Ao33,co33,eo33⟩:=Kd.R_slice HO18.out;subst eo33;have hnb34:=NB19_1.out;have hnc34:=NB1_19.out;have hcz35_0 : w32.cell? ⟨gb19,0,none⟩ = some (.slice none 0 0):=(blk_cell BK19.out 0).trans rfl;have hfz35_0:=blk_frozen BK19.out 0) | ((with_reducible refine gate_callee (f:=14) rfl ?_);refine goesL_ (some 41) rfl rfl Try.func14 (by kernel_rfl) rfl #[.slice A1 l1.length c1] rfl lm_ ?_;(with_reducible refine (laws_toPartS.calls k _ _ l1 t20 _ ?side1 ?side2 A18.out).mono ?_);(case side1=>exact Kd.C_below HR1.out hb_);(case side2=>exact HC1.out);rintro e w36 ⟨v21,rfl,ho0,hb⟩;refine ⟨_,rfl,?_⟩;have n0_:=a0_ (Kd.R_below (by (with_reducible repeat (first | apply Kd.R_alloc | apply Kd.R_drewN | apply Kd.R_drew));exact (Kd.R_mono (Kd.R_far (p:=⟨gb19,0,none⟩) (Kd.R_types HO6.out BK19.out (by decide)) (fun _ hk=>hk.2) (.slice Ao33 t16.length co33)) (fun _ h_=>h_.1))) hb);have n1_:=a0_ (Kd.R_elder' (by (with_reducible repeat (first | apply Kd.R_alloc | apply Kd.R_drewN | apply Kd.R_drew));exact (Kd.R_mono (Kd.R_far (p:=⟨gb19,0,none⟩) (Kd.R_types HO9.out BK19.out (by decide)) (fun _ hk=>hk.2) (.slice Ao33 t16.length co33)) (fun _ h_=>h_.1))) (Kd.R_base ho0) hb);have n2_:=a0_ (Kd.R_elder' (by (with_reducible repeat (first | apply Kd.R_alloc | apply Kd.R_drewN | apply Kd.R_drew));exact (Kd.R_mono (Kd.R_far (p:=⟨gb19,0,none⟩) (Kd.R_types HO12.out BK19.out (by decide)) (fun _ hk=>hk.2) (.slice Ao33 t16.length co33)) (fun _ h_=>h_.1))) (Kd.R_base ho0) hb);have n3_:=a0_ (Kd.R_elder' (by (with_reducible repeat (first | apply Kd.R_alloc | apply Kd.R_drewN | apply Kd.R_drew));exact (Kd.R_mono (Kd.R_far (p:=⟨gb19,0,none⟩) (Kd.R_types HO15.out BK19.out (by decide)) (fun _ hk=>hk.2) (.slice Ao33 t16.length co33)) (fun _ h_=>h_.1))) (Kd.R_base ho0) hb);have n4_:=a0_ (Kd.R_below (by (with_reducible repeat (first | apply Kd.R_alloc | apply Kd.R_drewN | apply Kd.R_drew));exact (Kd.R_mono (Kd.R_far (p:=⟨gb19,0,none⟩) (Kd.R_types HO18.out BK19.out (by decide)) (fun _ hk=>hk.2) (.slice Ao33 t16.length co33)) (fun _ h_=>h_.1))) hb);have n5_:=a0_ (Kd.R_lower (Kd.R_new' (Kd.R_new' (Kd.R_new' ho0 (Kd.R_lt (by (with_reducible repeat (first | apply Kd.R_alloc | apply Kd.R_drewN | apply Kd.R_drew));exact (Kd.R_mono (Kd.R_far (p:=⟨gb19,0,none⟩) (Kd.R_types HO9.out BK19.out (by decide)) (fun _ hk=>hk.2) (.slice Ao33 t16.length co33)) (fun _ h_=>h_.1))))) (Kd.R_lt (by (with_reducible repeat (first | apply Kd.R_alloc | apply Kd.R_drewN | apply Kd.R_drew));exact (Kd.R_mono (Kd.R_far (p:=⟨gb19,0,none⟩) (Kd.R_types HO12.out BK19.out (by decide)) (fun _ hk=>hk.2) (.slice Ao33 t16.length co33)) (fun _ h_=>h_.1))))) (Kd.R_lt (by (with_reducible repeat (first | apply Kd.R_alloc | apply Kd.R_drewN | apply Kd.R_drew));exact (Kd.R_mono (Kd.R_far (p:=⟨gb19,0,none⟩) (Kd.R_types HO15.out BK19.out (by decide)) (fun _ hk=>hk.2) (.slice Ao33 t16.length co33)) (fun _ h_=>h_.1))))) (below_size hb_));have n6_:=kf_ BK1 NB1_19 hb;have n7_:=a0_ (blk_below (g:=gb19) (o:=.cells #[.slice Ao33 t16.length co33] 31 (0,0)) (by (with_reducible repeat (first | refine blk_drewN ?_ _ | refine blk_drew ?_ | refine blk_alloc ?_ _));refine blk_put (cs:=#[.slice none 0 0]) ?_ 0 _ rfl;(with_reducible repeat (first | refine blk_drewN ?_ _ | refine blk_drew ?_ | refine blk_alloc ?_ _));exact BK19.out) hb);have n8_:=a0_ (below_step hb_ hb);clear HO6 HO9;clear HO12 HO15;clear HO18 BK1;clear BK19 HB;have HO6:=n0_;have HO9:=n1_;have HO12:=n2_;have HO15:=n3_;have HO18:=n4_;have HO22:=n5_;have BK1:=n6_;have BK19:=n7_;have HB:=n8_;clear n0_ n1_ n2_ n3_ n4_ n5_ n6_ n7_ n8_;(try clear hb);(try clear ho0);have hcz37_0 : w36.cell? ⟨gb19,0,none⟩ = some (.slice Ao33 t16.length co33):=(blk_cell BK19.out 0).trans rfl;have hfz37_0:=blk_frozen BK19.out 0;obtain ⟨Ao38,co38,eo38⟩:=Kd.R_slice HO22.out;subst eo38) | ((with_reducible refine gate_callee (f:=40) rfl ?_);refine goesL_ (some 46) rfl rfl Try.func40 (by kernel_rfl) rfl #[.agg #[.slice Ao33 t16.length co33],.slice Ao38 t20.length co38,.int .i64 a2] rfl lm_ ?_;(with_reducible refine (impl_SplitGroup.calls _ _ t16 _ _ t20 a2 t23 t26 _ ?side1 ?side2 ?side3 ?side4 A19.out).mono ?_);(case side1=>exact cc_ (Kd.R_reads' HO18.out).2.2);(case side2=>exact (Kd.R_reads' HO18.out).2.1);(case side3=>exact cc_ (Kd.R_reads' HO22.out).2.2);(case side4=>exact (Kd.R_reads' HO22.out).2.1);rintro e w39 ⟨v24,v27,rfl,ho0,ho1,hb⟩;refine ⟨_,rfl,?_⟩;have n0_:=rb_ HO6 hb;have n1_:=a0_ (Kd.R_mono (Kd.R_told (Kd.R_told (Kd.R_old (rr_ HO9.out) hb) (Kd.R_base ho0)) (Kd.R_base ho1)) (fun _ h_=>h_.1));have n2_:=a0_ (Kd.R_mono (Kd.R_told (Kd.R_told (Kd.R_old (rr_ HO12.out) hb) (Kd.R_base ho0)) (Kd.R_base ho1)) (fun _ h_=>h_.1));have n3_:=a0_ (Kd.R_mono (Kd.R_told (Kd.R_told (Kd.R_old (rr_ HO15.out) hb) (Kd.R_base ho0)) (Kd.R_base ho1)) (fun _ h_=>h_.1));have n4_:=rb_ HO18 hb;have n5_:=a0_ (Kd.R_mono (Kd.R_told (Kd.R_told (Kd.R_old (rr_ HO22.out) hb) (Kd.R_base ho0)) (Kd.R_base ho1)) (fun _ h_=>h_.1));have n6_:=a0_ (Kd.R_lower (Kd.R_new' (Kd.R_new' (Kd.R_new' (Kd.R_new' ho0 (Kd.R_lt (rr_ HO9.out))) (Kd.R_lt (rr_ HO12.out))) (Kd.R_lt (rr_ HO15.out))) (Kd.R_lt (rr_ HO22.out))) (below_size hb_));have n7_:=a0_ (Kd.R_lower (Kd.R_new' (Kd.R_new' (Kd.R_new' (Kd.R_new' ho1 (Kd.R_lt (rr_ HO9.out))) (Kd.R_lt (rr_ HO12.out))) (Kd.R_lt (rr_ HO15.out))) (Kd.R_lt (rr_ HO22.out))) (below_size hb_));have n8_:=kb_ BK1 hb;have n9_:=kb_ BK19 hb;have n10_:=a0_ (below_step hb_ hb);clear HO6 HO9;clear HO12 HO15;clear HO18 HO22;clear BK1 BK19 HB;have HO6:=n0_;have HO9:=n1_;have HO12:=n2_;have HO15:=n3_;have HO18:=n4_;have HO22:=n5_;have HO25:=n6_;have HO28:=n7_;have BK1:=n8_;have BK19:=n9_;have HB:=n10_;clear n0_ n1_ n2_ n3_ n4_ n5_ n6_ n7_ n8_ n9_ n10_;(try clear hb);(try clear ho0);(try clear ho1)))
   (try simp only [Act.put,s1_,s2_,s3_])
   go_cut [58] (fun v58 wc=>∃ (kq : Nat) (x58_19 : Bool),v58 = .bool x58_19 ∧ Aside0 (laws_FnExactSplitGroup.j0 kq l1 a2 t10 t13 t20 t23 t26 x58_19 l0_0 t16 = some r) ∧ Aside0 (kq ≤ k) ∧ Aside0 (Kd.R k63 63 wc w.heap.size (fun k_=>some k_ ≠ (v14 : Value).ownBlock ∧ some k_ ≠ ((.slice Ao38 t20.length co38) : Value).ownBlock ∧ some k_ ≠ (v24 : Value).ownBlock ∧ some k_ ≠ (v27 : Value).ownBlock) v11 t10) ∧ Aside0 (Kd.R k63 63 wc w.heap.size (fun k_=>some k_ ≠ (v11 : Value).ownBlock ∧ some k_ ≠ ((.slice Ao38 t20.length co38) : Value).ownBlock ∧ some k_ ≠ (v24 : Value).ownBlock ∧ some k_ ≠ (v27 : Value).ownBlock) v14 t13) ∧ Aside0 (Kd.R k63 63 wc w.heap.size (fun k_=>some k_ ≠ (v11 : Value).ownBlock ∧ some k_ ≠ (v14 : Value).ownBlock ∧ some k_ ≠ (v24 : Value).ownBlock ∧ some k_ ≠ (v27 : Value).ownBlock) (.slice Ao38 t20.length co38) t20) ∧ Aside0 (Kd.R k63 63 wc w.heap.size (fun k_=>some k_ ≠ (v11 : Value).ownBlock ∧ some k_ ≠ (v14 : Value).ownBlock ∧ some k_ ≠ ((.slice Ao38 t20.length co38) : Value).ownBlock ∧ some k_ ≠ (v27 : Value).ownBlock) v24 t23) ∧ Aside0 (Kd.R k63 63 wc w.heap.size (fun k_=>some k_ ≠ (v11 : Value).ownBlock ∧ some k_ ≠ (v14 : Value).ownBlock ∧ some k_ ≠ ((.slice Ao38 t20.length co38) : Value).ownBlock ∧ some k_ ≠ (v24 : Value).ownBlock) v27 t26) ∧ Aside0 (Kd.R k89 89 wc w.heap.size (fun _=>True) (.slice Ao33 t16.length co33) t16) ∧ Aside0 (wc.heap[gb1]? = some (.cells #[(.slice A0_0 l0_0.length c0_0)] 24 (0,0))) ∧ Aside0 (wc.heap[gb19]? = some (.cells #[(.slice Ao33 t16.length co33)] 31 (0,0))) ∧ Aside0 (Below w.heap.size w wc))
   case first =>
    have H:=HC20.out
    clear HC20
    replace H:=Option.bind_eq_some_iff.mp H
    obtain ⟨t29,A400,H⟩:=H
    replace H : (if t29 = true then ((laws_eqPartS.f k t26 t13).bind fun t30=>(laws_FnExactSplitGroup.j0 k l1 a2 t10 t13 t20 t23 t26 (!t30) l0_0 t16)) else (laws_FnExactSplitGroup.j0 k l1 a2 t10 t13 t20 t23 t26 true l0_0 t16)) = some r:=H
    have A40:=a0_ A400
    clear A400
    by_cases c41 : t29 = true
    ·subst c41
     have H1 : ((laws_eqPartS.f k t26 t13).bind fun t30=>(laws_FnExactSplitGroup.j0 k l1 a2 t10 t13 t20 t23 t26 (!t30) l0_0 t16)) = some r:=by rw [if_pos rfl] at H;exact H
     clear H
     have H:=H1
     clear H1
     replace H:=Option.bind_eq_some_iff.mp H
     obtain ⟨t30,A420,H⟩:=H
     replace H : (laws_FnExactSplitGroup.j0 k l1 a2 t10 t13 t20 t23 t26 (!t30) l0_0 t16) = some r:=H
     have A42:=a0_ A420
     clear A420
     have H':=a0_ H
     clear H
     obtain ⟨Ao43,co43,eo43⟩:=Kd.R_slice HO25.out
     subst eo43
     obtain ⟨Ao44,co44,eo44⟩:=Kd.R_slice HO12.out
     subst eo44
     go_wp2_with (first | ((with_reducible refine gate_callee (f:=17) rfl ?_);refine goesL_ (some 51) rfl rfl Try.func17 (by kernel_rfl) rfl #[.slice Ao43 t23.length co43,.slice Ao44 t10.length co44] rfl lm_ ?_;(with_reducible refine (laws_eqPartS.calls k _ _ t23 _ _ t10 true _ ?side1 ?side2 ?side3 ?side4 A40.out).mono ?_);(case side1=>exact cc_ (Kd.R_reads' HO25.out).2.2);(case side2=>exact (Kd.R_reads' HO25.out).2.1);(case side3=>exact cc_ (Kd.R_reads' HO12.out).2.2);(case side4=>exact (Kd.R_reads' HO12.out).2.1);rintro e w45 ⟨rfl,hb⟩;refine ⟨_,rfl,?_⟩;replace HO6:=rb_ HO6 hb;replace HO9:=rb_ HO9 hb;replace HO12:=rb_ HO12 hb;replace HO15:=rb_ HO15 hb;replace HO18:=rb_ HO18 hb;replace HO22:=rb_ HO22 hb;replace HO25:=rb_ HO25 hb;replace HO28:=rb_ HO28 hb;replace BK1:=kb_ BK1 hb;replace BK19:=kb_ BK19 hb;replace HB:=a0_ (below_step hb_ hb);(try clear hb);obtain ⟨Ao46,co46,eo46⟩:=Kd.R_slice HO28.out;subst eo46;obtain ⟨Ao47,co47,eo47⟩:=Kd.R_slice HO15.out;subst eo47) | (go_at_call 17;(with_reducible refine (laws_eqPartS.calls k _ _ t26 _ _ t13 t30 _ ?side1 ?side2 ?side3 ?side4 A42.out).mono ?_);(case side1=>exact cc_ (Kd.R_reads' HO28.out).2.2);(case side2=>exact (Kd.R_reads' HO28.out).2.1);(case side3=>exact cc_ (Kd.R_reads' HO15.out).2.2);(case side4=>exact (Kd.R_reads' HO15.out).2.1);rintro e w48 ⟨rfl,hb⟩;replace HO6:=rb_ HO6 hb;replace HO9:=rb_ HO9 hb;replace HO12:=rb_ HO12 hb;replace HO15:=rb_ HO15 hb;replace HO18:=rb_ HO18 hb;replace HO22:=rb_ HO22 hb;replace HO25:=rb_ HO25 hb;replace HO28:=rb_ HO28 hb;replace BK1:=kb_ BK1 hb;replace BK19:=kb_ BK19 hb;replace HB:=a0_ (below_step hb_ hb);(try clear hb);(try clear hb2);(try clear hk);(try clear hi)))
     go_meet
     case rel=>exact ⟨_,(!t30),(by first | rfl | (simp;done) | (simp [*];done)),H',⟨by first | omega | exact Nat.le_refl _⟩,⟨by (with_reducible repeat (first | apply Kd.R_alloc | apply Kd.R_drewN | apply Kd.R_drew));exact Kd.R_mono HO12.out (fun _ hk=>⟨hk.1.1.1.1,⟨hk.1.1.2,⟨hk.1.2,hk.2⟩⟩⟩)⟩,⟨by (with_reducible repeat (first | apply Kd.R_alloc | apply Kd.R_drewN | apply Kd.R_drew));exact Kd.R_mono HO15.out (fun _ hk=>⟨hk.1.1.1.1,⟨hk.1.1.2,⟨hk.1.2,hk.2⟩⟩⟩)⟩,⟨by (with_reducible repeat (first | apply Kd.R_alloc | apply Kd.R_drewN | apply Kd.R_drew));exact Kd.R_mono HO22.out (fun _ hk=>⟨hk.1.1.1.2,⟨hk.1.1.2,⟨hk.1.2,hk.2⟩⟩⟩)⟩,⟨by (with_reducible repeat (first | apply Kd.R_alloc | apply Kd.R_drewN | apply Kd.R_drew));exact Kd.R_mono HO25.out (fun _ hk=>⟨hk.1.1.2,⟨hk.1.2,⟨hk.2,hk.1.1.1.1⟩⟩⟩)⟩,⟨by (with_reducible repeat (first | apply Kd.R_alloc | apply Kd.R_drewN | apply Kd.R_drew));exact Kd.R_mono HO28.out (fun _ hk=>⟨hk.1.1.2,⟨hk.1.2,⟨hk.2,hk.1.1.1.1⟩⟩⟩)⟩,⟨by (with_reducible repeat (first | apply Kd.R_alloc | apply Kd.R_drewN | apply Kd.R_drew));exact Kd.R_mono HO18.out (fun _ hk=>trivial)⟩,⟨by (with_reducible repeat (first | refine blk_drewN ?_ _ | refine blk_drew ?_ | refine blk_alloc ?_ _));exact BK1.out⟩,⟨by (with_reducible repeat (first | refine blk_drewN ?_ _ | refine blk_drew ?_ | refine blk_alloc ?_ _));exact BK19.out⟩,⟨hb_⟩⟩
    ·replace c41:=Bool.eq_false_iff.mpr c41
     subst c41
     have H1 : (laws_FnExactSplitGroup.j0 k l1 a2 t10 t13 t20 t23 t26 true l0_0 t16) = some r:=by rw [if_neg (show ¬ (false = true) by decide)] at H;exact H
     clear H
     have H:=H1
     clear H1
     have H':=a0_ H
     clear H
     obtain ⟨Ao49,co49,eo49⟩:=Kd.R_slice HO25.out
     subst eo49
     obtain ⟨Ao50,co50,eo50⟩:=Kd.R_slice HO12.out
     subst eo50
     go_wp2_with (first | ((with_reducible refine gate_callee (f:=17) rfl ?_);refine goesL_ (some 51) rfl rfl Try.func17 (by kernel_rfl) rfl #[.slice Ao49 t23.length co49,.slice Ao50 t10.length co50] rfl lm_ ?_;(with_reducible refine (laws_eqPartS.calls k _ _ t23 _ _ t10 false _ ?side1 ?side2 ?side3 ?side4 A40.out).mono ?_);(case side1=>exact cc_ (Kd.R_reads' HO25.out).2.2);(case side2=>exact (Kd.R_reads' HO25.out).2.1);(case side3=>exact cc_ (Kd.R_reads' HO12.out).2.2);(case side4=>exact (Kd.R_reads' HO12.out).2.1);rintro e w51 ⟨rfl,hb⟩;refine ⟨_,rfl,?_⟩;replace HO6:=rb_ HO6 hb;replace HO9:=rb_ HO9 hb;replace HO12:=rb_ HO12 hb;replace HO15:=rb_ HO15 hb;replace HO18:=rb_ HO18 hb;replace HO22:=rb_ HO22 hb;replace HO25:=rb_ HO25 hb;replace HO28:=rb_ HO28 hb;replace BK1:=kb_ BK1 hb;replace BK19:=kb_ BK19 hb;replace HB:=a0_ (below_step hb_ hb);(try clear hb);(try clear hb2);(try clear hk);(try clear hi)))
     go_meet
     case rel=>exact ⟨_,(true),(by first | rfl | (simp;done) | (simp [*];done)),H',⟨by first | omega | exact Nat.le_refl _⟩,⟨by (with_reducible repeat (first | apply Kd.R_alloc | apply Kd.R_drewN | apply Kd.R_drew));exact Kd.R_mono HO12.out (fun _ hk=>⟨hk.1.1.1.1,⟨hk.1.1.2,⟨hk.1.2,hk.2⟩⟩⟩)⟩,⟨by (with_reducible repeat (first | apply Kd.R_alloc | apply Kd.R_drewN | apply Kd.R_drew));exact Kd.R_mono HO15.out (fun _ hk=>⟨hk.1.1.1.1,⟨hk.1.1.2,⟨hk.1.2,hk.2⟩⟩⟩)⟩,⟨by (with_reducible repeat (first | apply Kd.R_alloc | apply Kd.R_drewN | apply Kd.R_drew));exact Kd.R_mono HO22.out (fun _ hk=>⟨hk.1.1.1.2,⟨hk.1.1.2,⟨hk.1.2,hk.2⟩⟩⟩)⟩,⟨by (with_reducible repeat (first | apply Kd.R_alloc | apply Kd.R_drewN | apply Kd.R_drew));exact Kd.R_mono HO25.out (fun _ hk=>⟨hk.1.1.2,⟨hk.1.2,⟨hk.2,hk.1.1.1.1⟩⟩⟩)⟩,⟨by (with_reducible repeat (first | apply Kd.R_alloc | apply Kd.R_drewN | apply Kd.R_drew));exact Kd.R_mono HO28.out (fun _ hk=>⟨hk.1.1.2,⟨hk.1.2,⟨hk.2,hk.1.1.1.1⟩⟩⟩)⟩,⟨by (with_reducible repeat (first | apply Kd.R_alloc | apply Kd.R_drewN | apply Kd.R_drew));exact Kd.R_mono HO18.out (fun _ hk=>trivial)⟩,⟨by (with_reducible repeat (first | refine blk_drewN ?_ _ | refine blk_drew ?_ | refine blk_alloc ?_ _));exact BK1.out⟩,⟨by (with_reducible repeat (first | refine blk_drewN ?_ _ | refine blk_drew ?_ | refine blk_alloc ?_ _));exact BK19.out⟩,⟨hb_⟩⟩
   case rest =>
    clear HC20
    try clear c1
    try clear p2
    try clear c3
    try clear c4
    try clear c5
    try clear c5b0
    try clear c9
    try clear c10
    try clear c10b0
    try clear c11
    try clear c13
    try clear c14
    try clear c17
    try clear c34
    try clear c39
    try clear c40
    try clear c41
    try clear hcz12_0
    try clear hcz22_0
    try clear hcz24_0
    try clear hcz30_0
    try clear hcz35_0
    try clear hcz37_0
    try clear hcz7_0
    try clear hfz12_0
    try clear hfz22_0
    try clear hfz24_0
    try clear hfz30_0
    try clear hfz35_0
    try clear hfz37_0
    try clear hfz7_0
    obtain ⟨kq,x58_19,rfl,HA,HJ19,HO_8,HO_9,HO_11,HO_12,HO_13,Z20,BK1,BK19,HB⟩:=hcut
    cases kq with
    | zero=>exact absurd HA.out (by simp [laws_FnExactSplitGroup.j0])
    | succ kj19 =>
     have H:=HA.out
     clear HA
     simp only [laws_FnExactSplitGroup.j0] at H
     by_cases c52 : x58_19 = true
     ·subst c52
      have H1 : (some false) = some r:=by rw [if_pos rfl] at H;exact H
      clear H
      have H:=H1
      clear H1
      obtain rfl:=Option.some.inj H
      go_wp2
      go_ret
      exact ⟨by first | rfl | (simp [errW_none,errW_some] <;> rfl) | (simp [*,errW_none,errW_some] <;> rfl),hb_⟩
     ·replace c52:=Bool.eq_false_iff.mpr c52
      subst c52
      have H1 : ((laws_toTree.f kj19 l0_0).bind fun t31=>((laws_eqTree.f kj19 t16 t31).bind fun t34=>(if t34 = true then ((laws_toPartS.f kj19 l1).bind fun t35=>((laws_eqPartS.f kj19 t20 t35).bind fun t38=>(if t38 = true then ((laws_markTree.f kj19 t16 1).bind fun bt39=>((laws_markPartS.f kj19 t20 bt39.1).bind fun bt41=>(if bt41.1 < 0 then (laws_FnExactSplitGroup.j1 kj19 l1 a2 t10 t13 t23 t26 true l0_0) else ((laws_eqPartS.f kj19 t23 t10).bind fun t43=>(if t43 = true then ((laws_eqPartS.f kj19 t26 t13).bind fun t44=>(laws_FnExactSplitGroup.j1 kj19 l1 a2 t10 t13 t23 t26 (!t44) l0_0)) else (laws_FnExactSplitGroup.j1 kj19 l1 a2 t10 t13 t23 t26 true l0_0)))))) else (some false)))) else (some false)))) = some r:=by rw [if_neg (show ¬ (false = true) by decide)] at H;exact H
      clear H
      have H:=H1
      clear H1
      replace H:=Option.bind_eq_some_iff.mp H
      obtain ⟨t31,A530,H⟩:=H
      replace H : ((laws_eqTree.f kj19 t16 t31).bind fun t34=>(if t34 = true then ((laws_toPartS.f kj19 l1).bind fun t35=>((laws_eqPartS.f kj19 t20 t35).bind fun t38=>(if t38 = true then ((laws_markTree.f kj19 t16 1).bind fun bt39=>((laws_markPartS.f kj19 t20 bt39.1).bind fun bt41=>(if bt41.1 < 0 then (laws_FnExactSplitGroup.j1 kj19 l1 a2 t10 t13 t23 t26 true l0_0) else ((laws_eqPartS.f kj19 t23 t10).bind fun t43=>(if t43 = true then ((laws_eqPartS.f kj19 t26 t13).bind fun t44=>(laws_FnExactSplitGroup.j1 kj19 l1 a2 t10 t13 t23 t26 (!t44) l0_0)) else (laws_FnExactSplitGroup.j1 kj19 l1 a2 t10 t13 t23 t26 true l0_0)))))) else (some false)))) else (some false))) = some r:=H
      have A53:=a0_ A530
      clear A530
      replace H:=Option.bind_eq_some_iff.mp H
      obtain ⟨t34,A540,H⟩:=H
      replace H : (if t34 = true then ((laws_toPartS.f kj19 l1).bind fun t35=>((laws_eqPartS.f kj19 t20 t35).bind fun t38=>(if t38 = true then ((laws_markTree.f kj19 t16 1).bind fun bt39=>((laws_markPartS.f kj19 t20 bt39.1).bind fun bt41=>(if bt41.1 < 0 then (laws_FnExactSplitGroup.j1 kj19 l1 a2 t10 t13 t23 t26 true l0_0) else ((laws_eqPartS.f kj19 t23 t10).bind fun t43=>(if t43 = true then ((laws_eqPartS.f kj19 t26 t13).bind fun t44=>(laws_FnExactSplitGroup.j1 kj19 l1 a2 t10 t13 t23 t26 (!t44) l0_0)) else (laws_FnExactSplitGroup.j1 kj19 l1 a2 t10 t13 t23 t26 true l0_0)))))) else (some false)))) else (some false)) = some r:=H
      have A54:=a0_ A540
      clear A540
      by_cases c55 : t34 = true
      ·subst c55
       have H1 : ((laws_toPartS.f kj19 l1).bind fun t35=>((laws_eqPartS.f kj19 t20 t35).bind fun t38=>(if t38 = true then ((laws_markTree.f kj19 t16 1).bind fun bt39=>((laws_markPartS.f kj19 t20 bt39.1).bind fun bt41=>(if bt41.1 < 0 then (laws_FnExactSplitGroup.j1 kj19 l1 a2 t10 t13 t23 t26 true l0_0) else ((laws_eqPartS.f kj19 t23 t10).bind fun t43=>(if t43 = true then ((laws_eqPartS.f kj19 t26 t13).bind fun t44=>(laws_FnExactSplitGroup.j1 kj19 l1 a2 t10 t13 t23 t26 (!t44) l0_0)) else (laws_FnExactSplitGroup.j1 kj19 l1 a2 t10 t13 t23 t26 true l0_0)))))) else (some false)))) = some r:=by rw [if_pos rfl] at H;exact H
       clear H
       have H:=H1
       clear H1
       replace H:=Option.bind_eq_some_iff.mp H
       obtain ⟨t35,A560,H⟩:=H
       replace H : ((laws_eqPartS.f kj19 t20 t35).bind fun t38=>(if t38 = true then ((laws_markTree.f kj19 t16 1).bind fun bt39=>((laws_markPartS.f kj19 t20 bt39.1).bind fun bt41=>(if bt41.1 < 0 then (laws_FnExactSplitGroup.j1 kj19 l1 a2 t10 t13 t23 t26 true l0_0) else ((laws_eqPartS.f kj19 t23 t10).bind fun t43=>(if t43 = true then ((laws_eqPartS.f kj19 t26 t13).bind fun t44=>(laws_FnExactSplitGroup.j1 kj19 l1 a2 t10 t13 t23 t26 (!t44) l0_0)) else (laws_FnExactSplitGroup.j1 kj19 l1 a2 t10 t13 t23 t26 true l0_0)))))) else (some false))) = some r:=H
       have A56:=a0_ A560
       clear A560
       replace H:=Option.bind_eq_some_iff.mp H
       obtain ⟨t38,A570,H⟩:=H
       replace H : (if t38 = true then ((laws_markTree.f kj19 t16 1).bind fun bt39=>((laws_markPartS.f kj19 t20 bt39.1).bind fun bt41=>(if bt41.1 < 0 then (laws_FnExactSplitGroup.j1 kj19 l1 a2 t10 t13 t23 t26 true l0_0) else ((laws_eqPartS.f kj19 t23 t10).bind fun t43=>(if t43 = true then ((laws_eqPartS.f kj19 t26 t13).bind fun t44=>(laws_FnExactSplitGroup.j1 kj19 l1 a2 t10 t13 t23 t26 (!t44) l0_0)) else (laws_FnExactSplitGroup.j1 kj19 l1 a2 t10 t13 t23 t26 true l0_0)))))) else (some false)) = some r:=H
       have A57:=a0_ A570
       clear A570
       by_cases c58 : t38 = true
       ·subst c58
        have H1 : ((laws_markTree.f kj19 t16 1).bind fun bt39=>((laws_markPartS.f kj19 t20 bt39.1).bind fun bt41=>(if bt41.1 < 0 then (laws_FnExactSplitGroup.j1 kj19 l1 a2 t10 t13 t23 t26 true l0_0) else ((laws_eqPartS.f kj19 t23 t10).bind fun t43=>(if t43 = true then ((laws_eqPartS.f kj19 t26 t13).bind fun t44=>(laws_FnExactSplitGroup.j1 kj19 l1 a2 t10 t13 t23 t26 (!t44) l0_0)) else (laws_FnExactSplitGroup.j1 kj19 l1 a2 t10 t13 t23 t26 true l0_0)))))) = some r:=by rw [if_pos rfl] at H;exact H
        clear H
        have H:=H1
        clear H1
        replace H:=Option.bind_eq_some_iff.mp H
        obtain ⟨⟨t39,t40⟩,A590,H⟩:=H
        replace H : ((laws_markPartS.f kj19 t20 t39).bind fun bt41=>(if bt41.1 < 0 then (laws_FnExactSplitGroup.j1 kj19 l1 a2 t10 t13 t23 t26 true l0_0) else ((laws_eqPartS.f kj19 t23 t10).bind fun t43=>(if t43 = true then ((laws_eqPartS.f kj19 t26 t13).bind fun t44=>(laws_FnExactSplitGroup.j1 kj19 l1 a2 t10 t13 t23 t26 (!t44) l0_0)) else (laws_FnExactSplitGroup.j1 kj19 l1 a2 t10 t13 t23 t26 true l0_0))))) = some r:=H
        have A59:=a0_ A590
        clear A590
        replace H:=Option.bind_eq_some_iff.mp H
        obtain ⟨⟨t41,t42⟩,A600,H⟩:=H
        replace H : (if t41 < 0 then (laws_FnExactSplitGroup.j1 kj19 l1 a2 t10 t13 t23 t26 true l0_0) else ((laws_eqPartS.f kj19 t23 t10).bind fun t43=>(if t43 = true then ((laws_eqPartS.f kj19 t26 t13).bind fun t44=>(laws_FnExactSplitGroup.j1 kj19 l1 a2 t10 t13 t23 t26 (!t44) l0_0)) else (laws_FnExactSplitGroup.j1 kj19 l1 a2 t10 t13 t23 t26 true l0_0)))) = some r:=H
        have A60:=a0_ A600
        clear A600
        have HC61:=a0_ H
        clear H
        try go_wp2
        have n0_:=a0_ (Kd.R_drew HO_8.out)
        have n1_:=a0_ (Kd.R_drew HO_9.out)
        have n2_:=a0_ (Kd.R_drew HO_11.out)
        have n3_:=a0_ (Kd.R_drew HO_12.out)
        have n4_:=a0_ (Kd.R_drew HO_13.out)
        have n5_:=a0_ (Kd.R_drew Z20.out)
        have n6_:=a0_ (blk_drew BK1.out)
        have n7_:=a0_ (blk_drew BK19.out)
        have n8_:=a0_ (below_drew1 HB.out)
        clear HO_8
        clear HO_9
        clear HO_11
        clear HO_12
        clear HO_13
        clear Z20
        clear BK1
        clear BK19
        clear HB
        have HO_8:=n0_
        have HO_9:=n1_
        have HO_11:=n2_
        have HO_12:=n3_
        have HO_13:=n4_
        have Z20:=n5_
        have BK1:=n6_
        have BK19:=n7_
        have HB:=n8_
        clear n0_ n1_ n2_ n3_ n4_ n5_ n6_ n7_ n8_
        refine start_ (n:=5) (S:=fun w'=>w'.cell? ⟨gb19,0,none⟩ = some (.slice Ao33 t16.length co33) ∧ w'.cell? ⟨gb1,0,none⟩ = some (.slice A0_0 l0_0.length c0_0)) (ds:=[]) #[false,false,false,false,false] (by kernel_rfl) rfl rfl ⟨(blk_cell BK19.out 0).trans rfl,(blk_cell BK1.out 0).trans rfl⟩ (fun hHeld=>?_)
        generalize wc.drew = w62 at HO_8 HO_9 HO_11 HO_12 HO_13 Z20 BK1 BK19 HB hHeld ⊢
        refine take_ (i:=0) (N:=some 59) (v:=?_) (a':=?_) #[true,false,false,false,false] rfl rfl (by kernel_rfl) (fun _ _ _ h=>h) (Or.inl ⟨by rfl,?_⟩) hHeld ?_ ?_
        rotate_left
        ·rintro w' ⟨s0,s1⟩
         go_simp
         with_reducible rfl
        rotate_left
        ·simp only [Act.put,s1_,s2_,s3_,i64_w,i32_w]
         rfl
        refine take_ (i:=1) (N:=some 60) (v:=?_) (a':=?_) #[true,true,false,false,false] rfl rfl (by kernel_rfl) (fun _ _ _ h=>h) (Or.inl ⟨by rfl,?_⟩) hHeld ?_ ?_
        rotate_left
        ·rintro w' ⟨s0,s1⟩
         go_simp
         with_reducible rfl
        rotate_left
        ·simp only [Act.put,s1_,s2_,s3_,i64_w,i32_w]
         rfl
        refine one_ (i:=2) (N:=some 61) #[true,true,true,false,false] rfl rfl (by kernel_rfl) (by decide) (fun K hK=>?_)
        refine goes_ Try.func13 (by kernel_rfl) rfl #[.agg #[.slice A0_0 l0_0.length c0_0]] (by rfl) rfl rfl lm_ ?_
        with_reducible refine (laws_toTree.calls kj19 _ _ l0_0 t31 _ ?side1 ?side2 A53.out).mono ?_
        (case side1=>exact cc_ (Kd.C_below HR0_0.out HB.out))
        (case side2=>exact HC0_0.out)
        rintro e w63 ⟨v32,rfl,ho0,hb⟩
        refine ⟨_,rfl,?_⟩
        have n0_:=rb_ HO_8 hb
        have n1_:=rb_ HO_9 hb
        have n2_:=rb_ HO_11 hb
        have n3_:=rb_ HO_12 hb
        have n4_:=rb_ HO_13 hb
        have n5_:=a0_ (Kd.R_elder' (rr_ Z20.out) (Kd.R_base ho0) hb)
        have n6_:=a0_ (Kd.R_lower (Kd.R_new' ho0 (Kd.R_lt (rr_ Z20.out))) (below_size hb_))
        have n7_:=kb_ BK1 hb
        have n8_:=kb_ BK19 hb
        have n9_:=a0_ (below_step hb_ hb)
        clear HO_8
        clear HO_9
        clear HO_11
        clear HO_12
        clear HO_13
        clear Z20
        clear BK1
        clear BK19
        clear HB
        have HO_8:=n0_
        have HO_9:=n1_
        have HO_11:=n2_
        have HO_12:=n3_
        have HO_13:=n4_
        have Z20:=n5_
        have HO33:=n6_
        have BK1:=n7_
        have BK19:=n8_
        have HB:=n9_
        clear n0_ n1_ n2_ n3_ n4_ n5_ n6_ n7_ n8_ n9_
        (try clear hb)
        (try clear hb2)
        (try clear hk)
        (try clear hi)
        (try clear ho0)
        obtain ⟨Ao64,co64,eo64⟩:=Kd.R_slice HO33.out
        (first | subst eo64 | (injection eo64 with f1_ f2_ f3_;have f4_:=f1_.symm;have f5_:=f3_.symm;clear f1_ f2_ f3_;subst f4_;subst f5_))
        refine hK.out _ _ ⟨(blk_cell BK19.out 0).trans rfl,(blk_cell BK1.out 0).trans rfl⟩ (fun hHeld=>?_)
        clear hK K
        refine norm_ (a':=?_) ?_ ?_
        rotate_left
        ·show Act.put _ (some 61) _ = _
         simp only [Act.put,s1_,s2_,s3_,i64_w,i32_w]
         rfl
        refine one_ (i:=3) (N:=some 62) #[true,true,true,true,false] rfl rfl (by kernel_rfl) (by decide) (fun K hK=>?_)
        refine goes_ Try.func16 (by kernel_rfl) rfl #[.agg #[.slice Ao33 t16.length co33],.agg #[.slice Ao64 t31.length co64]] (by rfl) rfl rfl lm_ ?_
        with_reducible refine (laws_eqTree.calls kj19 _ _ t16 _ _ t31 true _ ?side1 ?side2 ?side3 ?side4 A54.out).mono ?_
        (case side1=>exact cc_ (Kd.R_reads' Z20.out).2.2)
        (case side2=>exact (Kd.R_reads' Z20.out).2.1)
        (case side3=>exact cc_ (Kd.R_reads' HO33.out).2.2)
        (case side4=>exact (Kd.R_reads' HO33.out).2.1)
        rintro e w65 ⟨rfl,hb⟩
        refine ⟨_,rfl,?_⟩
        have n0_:=rb_ HO_8 hb
        have n1_:=rb_ HO_9 hb
        have n2_:=rb_ HO_11 hb
        have n3_:=rb_ HO_12 hb
        have n4_:=rb_ HO_13 hb
        have n5_:=rb_ Z20 hb
        have n6_:=rb_ HO33 hb
        have n7_:=kb_ BK1 hb
        have n8_:=kb_ BK19 hb
        have n9_:=a0_ (below_step hb_ hb)
        clear HO_8
        clear HO_9
        clear HO_11
        clear HO_12
        clear HO_13
        clear Z20
        clear HO33
        clear BK1
        clear BK19
        clear HB
        have HO_8:=n0_
        have HO_9:=n1_
        have HO_11:=n2_
        have HO_12:=n3_
        have HO_13:=n4_
        have Z20:=n5_
        have HO33:=n6_
        have BK1:=n7_
        have BK19:=n8_
        have HB:=n9_
        clear n0_ n1_ n2_ n3_ n4_ n5_ n6_ n7_ n8_ n9_
        (try clear hb)
        (try clear hb2)
        (try clear hk)
        (try clear hi)
        refine hK.out _ _ ⟨(blk_cell BK19.out 0).trans rfl,(blk_cell BK1.out 0).trans rfl⟩ (fun hHeld=>?_)
        clear hK K
        refine norm_ (a':=?_) ?_ ?_
        rotate_left
        ·show Act.put _ (some 62) _ = _
         simp only [Act.put,s1_,s2_,s3_,i64_w,i32_w]
         rfl
        refine pure_ (i:=4) (N:=some 63) (v:=?_) (a':=?_) #[true,true,true,true,true] rfl rfl (by kernel_rfl) (fun _ _ _ h=>h) (Or.inl ⟨by rfl,?_⟩) ?_ ?_
        rotate_left
        ·intro w'
         go_simp
         with_reducible rfl
        rotate_left
        ·simp only [Act.put,s1_,s2_,s3_,i64_w,i32_w]
         rfl
        refine done_ (by kernel_rfl) ?_
        go_upto_region 21 with (first | ((with_reducible refine gate_callee (f:=14) rfl ?_);refine goesL_ (some 66) rfl rfl Try.func14 (by kernel_rfl) rfl #[.slice A1 l1.length c1] rfl lm_ ?_;(with_reducible refine (laws_toPartS.calls kj19 _ _ l1 t35 _ ?side1 ?side2 A56.out).mono ?_);(case side1=>exact cc_ (Kd.C_below HR1.out HB.out));(case side2=>exact HC1.out);rintro e w66 ⟨v36,rfl,ho0,hb⟩;refine ⟨_,rfl,?_⟩;have n0_:=a0_ (Kd.R_elder' (rr_ HO_8.out) (Kd.R_base ho0) hb);have n1_:=a0_ (Kd.R_elder' (rr_ HO_9.out) (Kd.R_base ho0) hb);have n2_:=a0_ (Kd.R_elder' (rr_ HO_11.out) (Kd.R_base ho0) hb);have n3_:=a0_ (Kd.R_elder' (rr_ HO_12.out) (Kd.R_base ho0) hb);have n4_:=a0_ (Kd.R_elder' (rr_ HO_13.out) (Kd.R_base ho0) hb);have n5_:=rb_ Z20 hb;have n6_:=rb_ HO33 hb;have n7_:=a0_ (Kd.R_lower (Kd.R_new' (Kd.R_new' (Kd.R_new' (Kd.R_new' (Kd.R_new' ho0 (Kd.R_lt (rr_ HO_8.out))) (Kd.R_lt (rr_ HO_9.out))) (Kd.R_lt (rr_ HO_11.out))) (Kd.R_lt (rr_ HO_12.out))) (Kd.R_lt (rr_ HO_13.out))) (below_size hb_));have n8_:=kb_ BK1 hb;have n9_:=kb_ BK19 hb;have n10_:=a0_ (below_step hb_ hb);clear HO_8 HO_9;clear HO_11 HO_12;clear HO_13 Z20;clear HO33 BK1;clear BK19 HB;have HO_8:=n0_;have HO_9:=n1_;have HO_11:=n2_;have HO_12:=n3_;have HO_13:=n4_;have Z20:=n5_;have HO33:=n6_;have HO37:=n7_;have BK1:=n8_;have BK19:=n9_;have HB:=n10_;clear n0_ n1_ n2_ n3_ n4_ n5_ n6_ n7_ n8_ n9_ n10_;(try clear hb);(try clear ho0);obtain ⟨Ao67,co67,eo67⟩:=Kd.R_slice HO37.out;subst eo67) | ((with_reducible refine gate_callee (f:=17) rfl ?_);refine goesL_ (some 67) rfl rfl Try.func17 (by kernel_rfl) rfl #[.slice Ao38 t20.length co38,.slice Ao67 t35.length co67] rfl lm_ ?_;(with_reducible refine (laws_eqPartS.calls kj19 _ _ t20 _ _ t35 true _ ?side1 ?side2 ?side3 ?side4 A57.out).mono ?_);(case side1=>exact cc_ (Kd.R_reads' HO_11.out).2.2);(case side2=>exact (Kd.R_reads' HO_11.out).2.1);(case side3=>exact cc_ (Kd.R_reads' HO37.out).2.2);(case side4=>exact (Kd.R_reads' HO37.out).2.1);rintro e w68 ⟨rfl,hb⟩;refine ⟨_,rfl,?_⟩;replace HO_8:=rb_ HO_8 hb;replace HO_9:=rb_ HO_9 hb;replace HO_11:=rb_ HO_11 hb;replace HO_12:=rb_ HO_12 hb;replace HO_13:=rb_ HO_13 hb;replace Z20:=rb_ Z20 hb;replace HO33:=rb_ HO33 hb;replace HO37:=rb_ HO37 hb;replace BK1:=kb_ BK1 hb;replace BK19:=kb_ BK19 hb;replace HB:=a0_ (below_step hb_ hb);(try clear hb);have hnb69:=NB19_1.out;have hnc69:=NB1_19.out;have hcz70_0 : w68.cell? ⟨gb19,0,none⟩ = some (.slice Ao33 t16.length co33):=(blk_cell BK19.out 0).trans rfl;have hfz70_0:=blk_frozen BK19.out 0) | ((with_reducible refine gate_callee (f:=20) rfl ?_);refine goesL_ (some 71) rfl rfl Try.func20 (by kernel_rfl) rfl #[.agg #[.slice Ao33 t16.length co33],.int .i64 1] rfl lm_ ?_;(with_reducible refine (laws_markTree.calls kj19 (fun k_=>some k_ = (.slice Ao33 t16.length co33 : Value).ownBlock) (.slice Ao33 t16.length co33) t16 1 t39 t40 w _ ?side1 ?side2 A59.out).mono ?_);(case side1=>exact hb_);(case side2=>exact Kd.R_tight rfl Z20.out);rintro e w71 ⟨rfl,hy0,hb,hkp⟩;refine ⟨_,rfl,?_⟩;have n0_:=a0_ (Kd.R_mono (ok':=fun k_=>some k_ ≠ (v14 : Value).ownBlock ∧ some k_ ≠ (.slice Ao38 t20.length co38 : Value).ownBlock ∧ some k_ ≠ (v24 : Value).ownBlock ∧ some k_ ≠ (v27 : Value).ownBlock ∧ some k_ ≠ (.slice Ao67 t35.length co67 : Value).ownBlock) (Kd.R_keptB ((Kd.R_apart' HO_8.out (Kd.R_typed Z20.out) (by decide))) hkp (fun k_ hk_ hs_=>(hk_.2) hs_)) (fun k_ hk_=>⟨hk_.1.1.1.1,hk_.1.1.1.2.1,hk_.1.1.1.2.2.1,hk_.1.1.1.2.2.2,hk_.1.1.2⟩));have n1_:=a0_ (Kd.R_mono (ok':=fun k_=>some k_ ≠ (v11 : Value).ownBlock ∧ some k_ ≠ (.slice Ao38 t20.length co38 : Value).ownBlock ∧ some k_ ≠ (v24 : Value).ownBlock ∧ some k_ ≠ (v27 : Value).ownBlock ∧ some k_ ≠ (.slice Ao67 t35.length co67 : Value).ownBlock) (Kd.R_keptB ((Kd.R_apart' HO_9.out (Kd.R_typed Z20.out) (by decide))) hkp (fun k_ hk_ hs_=>(hk_.2) hs_)) (fun k_ hk_=>⟨hk_.1.1.1.1,hk_.1.1.1.2.1,hk_.1.1.1.2.2.1,hk_.1.1.1.2.2.2,hk_.1.1.2⟩));have n2_:=a0_ (Kd.R_mono (ok':=fun k_=>some k_ ≠ (v11 : Value).ownBlock ∧ some k_ ≠ (v14 : Value).ownBlock ∧ some k_ ≠ (v24 : Value).ownBlock ∧ some k_ ≠ (v27 : Value).ownBlock ∧ some k_ ≠ (.slice Ao67 t35.length co67 : Value).ownBlock) (Kd.R_keptB ((Kd.R_apart' HO_11.out (Kd.R_typed Z20.out) (by decide))) hkp (fun k_ hk_ hs_=>(hk_.2) hs_)) (fun k_ hk_=>⟨hk_.1.1.1.1,hk_.1.1.1.2.1,hk_.1.1.1.2.2.1,hk_.1.1.1.2.2.2,hk_.1.1.2⟩));have n3_:=a0_ (Kd.R_mono (ok':=fun k_=>some k_ ≠ (v11 : Value).ownBlock ∧ some k_ ≠ (v14 : Value).ownBlock ∧ some k_ ≠ (.slice Ao38 t20.length co38 : Value).ownBlock ∧ some k_ ≠ (v27 : Value).ownBlock ∧ some k_ ≠ (.slice Ao67 t35.length co67 : Value).ownBlock) (Kd.R_keptB ((Kd.R_apart' HO_12.out (Kd.R_typed Z20.out) (by decide))) hkp (fun k_ hk_ hs_=>(hk_.2) hs_)) (fun k_ hk_=>⟨hk_.1.1.1.1,hk_.1.1.1.2.1,hk_.1.1.1.2.2.1,hk_.1.1.1.2.2.2,hk_.1.1.2⟩));have n4_:=a0_ (Kd.R_mono (ok':=fun k_=>some k_ ≠ (v11 : Value).ownBlock ∧ some k_ ≠ (v14 : Value).ownBlock ∧ some k_ ≠ (.slice Ao38 t20.length co38 : Value).ownBlock ∧ some k_ ≠ (v24 : Value).ownBlock ∧ some k_ ≠ (.slice Ao67 t35.length co67 : Value).ownBlock) (Kd.R_keptB ((Kd.R_apart' HO_13.out (Kd.R_typed Z20.out) (by decide))) hkp (fun k_ hk_ hs_=>(hk_.2) hs_)) (fun k_ hk_=>⟨hk_.1.1.1.1,hk_.1.1.1.2.1,hk_.1.1.1.2.2.1,hk_.1.1.1.2.2.2,hk_.1.1.2⟩));have n5_:=a0_ (Kd.R_reok rfl hy0 (fun k_ e_=>Z20.out.1 k_ e_));have n6_:=a0_ (blk_kept (bb_ BK1.out) hkp (fun hs_=>(fun e_=>(Kd.R_ne Z20.out BK1.out (by decide)) e_) hs_));have n7_:=a0_ (blk_kept (bb_ BK19.out) hkp (fun hs_=>(fun e_=>(Kd.R_ne Z20.out BK19.out (by decide)) e_) hs_));have n8_:=a0_ (Kd.R_mono (ok':=fun k_=>some k_ ≠ (.slice Ao33 t16.length co33 : Value).ownBlock) (Kd.R_keptB (HO33.out) hkp (fun k_ hk_ hs_=>(hk_.2) hs_)) (fun k_ hk_=>hk_.1.2));have n9_:=a0_ (Kd.R_mono (ok':=fun k_=>some k_ ≠ (v11 : Value).ownBlock ∧ some k_ ≠ (v14 : Value).ownBlock ∧ some k_ ≠ (.slice Ao38 t20.length co38 : Value).ownBlock ∧ some k_ ≠ (v24 : Value).ownBlock ∧ some k_ ≠ (v27 : Value).ownBlock) (Kd.R_keptB ((Kd.R_apart' HO37.out (Kd.R_typed Z20.out) (by decide))) hkp (fun k_ hk_ hs_=>(hk_.2) hs_)) (fun k_ hk_=>⟨hk_.1.1.1.1.1.1.2,hk_.1.1.1.1.1.2,hk_.1.1.1.1.2,hk_.1.1.1.2,hk_.1.1.2⟩));have n10_:=a0_ (hb);clear HO_8 HO_9;clear HO_11 HO_12;clear HO_13 Z20;clear BK1 BK19;clear HO33 HO37 HB;have HO_8:=n0_;have HO_9:=n1_;have HO_11:=n2_;have HO_12:=n3_;have HO_13:=n4_;have Z20:=n5_;have BK1:=n6_;have BK19:=n7_;have HO33:=n8_;have HO37:=n9_;have HB:=n10_;clear n0_ n1_ n2_ n3_ n4_ n5_ n6_ n7_ n8_ n9_ n10_;(try clear hb);(try clear hkp);(try clear hy0)) | ((with_reducible refine gate_callee (f:=21) rfl ?_);refine goesL_ (some 74) rfl rfl Try.func21 (by kernel_rfl) rfl #[.slice Ao38 t20.length co38,.int .i64 t39] rfl lm_ ?_;(with_reducible refine (laws_markPartS.calls kj19 (fun k_=>some k_ = (.slice Ao38 t20.length co38 : Value).ownBlock) (.slice Ao38 t20.length co38) t20 t39 t41 t42 w _ ?side1 ?side2 A60.out).mono ?_);(case side1=>exact hb_);(case side2=>exact Kd.R_tight rfl HO_11.out);rintro e w72 ⟨rfl,hy0,hb,hkp⟩;refine ⟨_,rfl,?_⟩;have n0_:=a0_ (Kd.R_mono (ok':=fun k_=>some k_ ≠ (v14 : Value).ownBlock ∧ some k_ ≠ (.slice Ao38 t20.length co38 : Value).ownBlock ∧ some k_ ≠ (v24 : Value).ownBlock ∧ some k_ ≠ (v27 : Value).ownBlock ∧ some k_ ≠ (.slice Ao67 t35.length co67 : Value).ownBlock) (Kd.R_keptB (HO_8.out) hkp (fun k_ hk_ hs_=>(hk_.2.1) hs_)) (fun k_ hk_=>⟨hk_.1.1,hk_.1.2.1,hk_.1.2.2.1,hk_.1.2.2.2.1,hk_.1.2.2.2.2⟩));have n1_:=a0_ (Kd.R_mono (ok':=fun k_=>some k_ ≠ (v11 : Value).ownBlock ∧ some k_ ≠ (.slice Ao38 t20.length co38 : Value).ownBlock ∧ some k_ ≠ (v24 : Value).ownBlock ∧ some k_ ≠ (v27 : Value).ownBlock ∧ some k_ ≠ (.slice Ao67 t35.length co67 : Value).ownBlock) (Kd.R_keptB (HO_9.out) hkp (fun k_ hk_ hs_=>(hk_.2.1) hs_)) (fun k_ hk_=>⟨hk_.1.1,hk_.1.2.1,hk_.1.2.2.1,hk_.1.2.2.2.1,hk_.1.2.2.2.2⟩));have n2_:=a0_ (Kd.R_reok rfl hy0 (fun k_ e_=>HO_11.out.1 k_ e_));have n3_:=a0_ (Kd.R_mono (ok':=fun k_=>some k_ ≠ (v11 : Value).ownBlock ∧ some k_ ≠ (v14 : Value).ownBlock ∧ some k_ ≠ (.slice Ao38 t20.length co38 : Value).ownBlock ∧ some k_ ≠ (v27 : Value).ownBlock ∧ some k_ ≠ (.slice Ao67 t35.length co67 : Value).ownBlock) (Kd.R_keptB (HO_12.out) hkp (fun k_ hk_ hs_=>(hk_.2.2.1) hs_)) (fun k_ hk_=>⟨hk_.1.1,hk_.1.2.1,hk_.1.2.2.1,hk_.1.2.2.2.1,hk_.1.2.2.2.2⟩));have n4_:=a0_ (Kd.R_mono (ok':=fun k_=>some k_ ≠ (v11 : Value).ownBlock ∧ some k_ ≠ (v14 : Value).ownBlock ∧ some k_ ≠ (.slice Ao38 t20.length co38 : Value).ownBlock ∧ some k_ ≠ (v24 : Value).ownBlock ∧ some k_ ≠ (.slice Ao67 t35.length co67 : Value).ownBlock) (Kd.R_keptB (HO_13.out) hkp (fun k_ hk_ hs_=>(hk_.2.2.1) hs_)) (fun k_ hk_=>⟨hk_.1.1,hk_.1.2.1,hk_.1.2.2.1,hk_.1.2.2.2.1,hk_.1.2.2.2.2⟩));have n5_:=a0_ (Kd.R_mono (ok':=fun k_=>some k_ ≠ (.slice Ao64 t31.length co64 : Value).ownBlock) (Kd.R_keptB ((Kd.R_apart' Z20.out (Kd.R_typed HO_11.out) (by decide))) hkp (fun k_ hk_ hs_=>(hk_.2) hs_)) (fun k_ hk_=>hk_.1.1.2));have n6_:=a0_ (blk_kept (bb_ BK1.out) hkp (fun hs_=>(fun e_=>(Kd.R_ne HO_11.out BK1.out (by decide)) e_) hs_));have n7_:=a0_ (blk_kept (bb_ BK19.out) hkp (fun hs_=>(fun e_=>(Kd.R_ne HO_11.out BK19.out (by decide)) e_) hs_));have n8_:=a0_ (Kd.R_mono (ok':=fun k_=>some k_ ≠ (.slice Ao33 t16.length co33 : Value).ownBlock) (Kd.R_keptB ((Kd.R_apart' HO33.out (Kd.R_typed HO_11.out) (by decide))) hkp (fun k_ hk_ hs_=>(hk_.2) hs_)) (fun k_ hk_=>hk_.1.1));have n9_:=a0_ (Kd.R_mono (ok':=fun k_=>some k_ ≠ (v11 : Value).ownBlock ∧ some k_ ≠ (v14 : Value).ownBlock ∧ some k_ ≠ (.slice Ao38 t20.length co38 : Value).ownBlock ∧ some k_ ≠ (v24 : Value).ownBlock ∧ some k_ ≠ (v27 : Value).ownBlock) (Kd.R_keptB (HO37.out) hkp (fun k_ hk_ hs_=>(hk_.2.2.1) hs_)) (fun k_ hk_=>⟨hk_.1.1,hk_.1.2.1,hk_.1.2.2.1,hk_.1.2.2.2.1,hk_.1.2.2.2.2⟩));have n10_:=a0_ (hb);clear HO_8 HO_9;clear HO_11 HO_12;clear HO_13 Z20;clear BK1 BK19;clear HO33 HO37 HB;have HO_8:=n0_;have HO_9:=n1_;have HO_11:=n2_;have HO_12:=n3_;have HO_13:=n4_;have Z20:=n5_;have BK1:=n6_;have BK19:=n7_;have HO33:=n8_;have HO37:=n9_;have HB:=n10_;clear n0_ n1_ n2_ n3_ n4_ n5_ n6_ n7_ n8_ n9_ n10_;(try clear hb);(try clear hkp);(try clear hy0)))
        (try simp only [Act.put,s1_,s2_,s3_])
        go_cut [88] (fun v88 wc=>∃ (kq : Nat) (x88_60 : Bool),v88 = .bool x88_60 ∧ Aside0 (laws_FnExactSplitGroup.j1 kq l1 a2 t10 t13 t23 t26 x88_60 l0_0 = some r) ∧ Aside0 (kq ≤ kj19) ∧ Aside0 (Kd.R k63 63 wc w.heap.size (fun k_=>some k_ ≠ (v14 : Value).ownBlock ∧ some k_ ≠ (v24 : Value).ownBlock ∧ some k_ ≠ (v27 : Value).ownBlock) v11 t10) ∧ Aside0 (Kd.R k63 63 wc w.heap.size (fun k_=>some k_ ≠ (v11 : Value).ownBlock ∧ some k_ ≠ (v24 : Value).ownBlock ∧ some k_ ≠ (v27 : Value).ownBlock) v14 t13) ∧ Aside0 (Kd.R k63 63 wc w.heap.size (fun k_=>some k_ ≠ (v11 : Value).ownBlock ∧ some k_ ≠ (v14 : Value).ownBlock ∧ some k_ ≠ (v27 : Value).ownBlock) v24 t23) ∧ Aside0 (Kd.R k63 63 wc w.heap.size (fun k_=>some k_ ≠ (v11 : Value).ownBlock ∧ some k_ ≠ (v14 : Value).ownBlock ∧ some k_ ≠ (v24 : Value).ownBlock) v27 t26) ∧ Aside0 (Kd.R k89 89 wc w.heap.size (fun _=>True) (.slice Ao33 t16.length co33) t40) ∧ Aside0 (wc.heap[gb1]? = some (.cells #[(.slice A0_0 l0_0.length c0_0)] 24 (0,0))) ∧ Aside0 (wc.heap[gb19]? = some (.cells #[(.slice Ao33 t16.length co33)] 31 (0,0))) ∧ Aside0 (Below w.heap.size w wc))
        case first =>
         have H:=HC61.out
         clear HC61
         by_cases c73 : t41 < 0
         ·rw [if_pos c73] at H
          have c73b0 : decide (t41 < 0) = true:=decide_eq_true c73
          clear c73
          (first | rw [c73b0] | (simp only [i64_w,i32_w];rw [c73b0]) | skip)
          have H':=a0_ H
          clear H
          go_wp2
          go_meet
          case rel=>exact ⟨_,(true),(by first | rfl | (simp;done) | (simp [*];done)),H',⟨by have:=HJ19.out;first | omega | exact Nat.le_refl _⟩,⟨by (with_reducible repeat (first | apply Kd.R_alloc | apply Kd.R_drewN | apply Kd.R_drew));exact Kd.R_mono HO_8.out (fun _ hk=>⟨hk.1,⟨hk.2.2.1,hk.2.2.2.1⟩⟩)⟩,⟨by (with_reducible repeat (first | apply Kd.R_alloc | apply Kd.R_drewN | apply Kd.R_drew));exact Kd.R_mono HO_9.out (fun _ hk=>⟨hk.1,⟨hk.2.2.1,hk.2.2.2.1⟩⟩)⟩,⟨by (with_reducible repeat (first | apply Kd.R_alloc | apply Kd.R_drewN | apply Kd.R_drew));exact Kd.R_mono HO_12.out (fun _ hk=>⟨hk.1,⟨hk.2.1,hk.2.2.2.1⟩⟩)⟩,⟨by (with_reducible repeat (first | apply Kd.R_alloc | apply Kd.R_drewN | apply Kd.R_drew));exact Kd.R_mono HO_13.out (fun _ hk=>⟨hk.1,⟨hk.2.1,hk.2.2.2.1⟩⟩)⟩,⟨by (with_reducible repeat (first | apply Kd.R_alloc | apply Kd.R_drewN | apply Kd.R_drew));exact Kd.R_mono Z20.out (fun _ hk=>trivial)⟩,⟨by (with_reducible repeat (first | refine blk_drewN ?_ _ | refine blk_drew ?_ | refine blk_alloc ?_ _));exact BK1.out⟩,⟨by (with_reducible repeat (first | refine blk_drewN ?_ _ | refine blk_drew ?_ | refine blk_alloc ?_ _));exact BK19.out⟩,⟨hb_⟩⟩
         ·rw [if_neg c73] at H
          have c73b0 : decide (t41 < 0) = false:=decide_eq_false c73
          clear c73
          (first | rw [c73b0] | (simp only [i64_w,i32_w];rw [c73b0]) | skip)
          replace H:=Option.bind_eq_some_iff.mp H
          obtain ⟨t43,A740,H⟩:=H
          replace H : (if t43 = true then ((laws_eqPartS.f kj19 t26 t13).bind fun t44=>(laws_FnExactSplitGroup.j1 kj19 l1 a2 t10 t13 t23 t26 (!t44) l0_0)) else (laws_FnExactSplitGroup.j1 kj19 l1 a2 t10 t13 t23 t26 true l0_0)) = some r:=H
          have A74:=a0_ A740
          clear A740
          by_cases c75 : t43 = true
          ·subst c75
           have H1 : ((laws_eqPartS.f kj19 t26 t13).bind fun t44=>(laws_FnExactSplitGroup.j1 kj19 l1 a2 t10 t13 t23 t26 (!t44) l0_0)) = some r:=by rw [if_pos rfl] at H;exact H
           clear H
           have H:=H1
           clear H1
           replace H:=Option.bind_eq_some_iff.mp H
           obtain ⟨t44,A760,H⟩:=H
           replace H : (laws_FnExactSplitGroup.j1 kj19 l1 a2 t10 t13 t23 t26 (!t44) l0_0) = some r:=H
           have A76:=a0_ A760
           clear A760
           have H':=a0_ H
           clear H
           obtain ⟨Ao77,co77,eo77⟩:=Kd.R_slice HO_12.out
           subst eo77
           obtain ⟨Ao78,co78,eo78⟩:=Kd.R_slice HO_8.out
           subst eo78
           go_wp2_with (first | (go_at_call 17;(with_reducible refine (laws_eqPartS.calls kj19 _ _ t23 _ _ t10 true _ ?side1 ?side2 ?side3 ?side4 A74.out).mono ?_);(case side1=>exact cc_ (Kd.R_reads' HO_12.out).2.2);(case side2=>exact (Kd.R_reads' HO_12.out).2.1);(case side3=>exact cc_ (Kd.R_reads' HO_8.out).2.2);(case side4=>exact (Kd.R_reads' HO_8.out).2.1);rintro e w79 ⟨rfl,hb⟩;replace HO_8:=rb_ HO_8 hb;replace HO_9:=rb_ HO_9 hb;replace HO_11:=rb_ HO_11 hb;replace HO_12:=rb_ HO_12 hb;replace HO_13:=rb_ HO_13 hb;replace Z20:=rb_ Z20 hb;replace HO33:=rb_ HO33 hb;replace HO37:=rb_ HO37 hb;replace BK1:=kb_ BK1 hb;replace BK19:=kb_ BK19 hb;replace HB:=a0_ (below_step hb_ hb);(try clear hb);obtain ⟨Ao80,co80,eo80⟩:=Kd.R_slice HO_13.out;subst eo80;obtain ⟨Ao81,co81,eo81⟩:=Kd.R_slice HO_9.out;subst eo81) | (go_at_call 17;(with_reducible refine (laws_eqPartS.calls kj19 _ _ t26 _ _ t13 t44 _ ?side1 ?side2 ?side3 ?side4 A76.out).mono ?_);(case side1=>exact cc_ (Kd.R_reads' HO_13.out).2.2);(case side2=>exact (Kd.R_reads' HO_13.out).2.1);(case side3=>exact cc_ (Kd.R_reads' HO_9.out).2.2);(case side4=>exact (Kd.R_reads' HO_9.out).2.1);rintro e w82 ⟨rfl,hb⟩;replace HO_8:=rb_ HO_8 hb;replace HO_9:=rb_ HO_9 hb;replace HO_11:=rb_ HO_11 hb;replace HO_12:=rb_ HO_12 hb;replace HO_13:=rb_ HO_13 hb;replace Z20:=rb_ Z20 hb;replace HO33:=rb_ HO33 hb;replace HO37:=rb_ HO37 hb;replace BK1:=kb_ BK1 hb;replace BK19:=kb_ BK19 hb;replace HB:=a0_ (below_step hb_ hb);(try clear hb);(try clear hb2);(try clear hk);(try clear hi)))
           go_meet
           case rel=>exact ⟨_,(!t44),(by first | rfl | (simp;done) | (simp [*];done)),H',⟨by have:=HJ19.out;first | omega | exact Nat.le_refl _⟩,⟨by (with_reducible repeat (first | apply Kd.R_alloc | apply Kd.R_drewN | apply Kd.R_drew));exact Kd.R_mono HO_8.out (fun _ hk=>⟨hk.1,⟨hk.2.2.1,hk.2.2.2.1⟩⟩)⟩,⟨by (with_reducible repeat (first | apply Kd.R_alloc | apply Kd.R_drewN | apply Kd.R_drew));exact Kd.R_mono HO_9.out (fun _ hk=>⟨hk.1,⟨hk.2.2.1,hk.2.2.2.1⟩⟩)⟩,⟨by (with_reducible repeat (first | apply Kd.R_alloc | apply Kd.R_drewN | apply Kd.R_drew));exact Kd.R_mono HO_12.out (fun _ hk=>⟨hk.1,⟨hk.2.1,hk.2.2.2.1⟩⟩)⟩,⟨by (with_reducible repeat (first | apply Kd.R_alloc | apply Kd.R_drewN | apply Kd.R_drew));exact Kd.R_mono HO_13.out (fun _ hk=>⟨hk.1,⟨hk.2.1,hk.2.2.2.1⟩⟩)⟩,⟨by (with_reducible repeat (first | apply Kd.R_alloc | apply Kd.R_drewN | apply Kd.R_drew));exact Kd.R_mono Z20.out (fun _ hk=>trivial)⟩,⟨by (with_reducible repeat (first | refine blk_drewN ?_ _ | refine blk_drew ?_ | refine blk_alloc ?_ _));exact BK1.out⟩,⟨by (with_reducible repeat (first | refine blk_drewN ?_ _ | refine blk_drew ?_ | refine blk_alloc ?_ _));exact BK19.out⟩,⟨hb_⟩⟩
          ·replace c75:=Bool.eq_false_iff.mpr c75
           subst c75
           have H1 : (laws_FnExactSplitGroup.j1 kj19 l1 a2 t10 t13 t23 t26 true l0_0) = some r:=by rw [if_neg (show ¬ (false = true) by decide)] at H;exact H
           clear H
           have H:=H1
           clear H1
           have H':=a0_ H
           clear H
           obtain ⟨Ao83,co83,eo83⟩:=Kd.R_slice HO_12.out
           subst eo83
           obtain ⟨Ao84,co84,eo84⟩:=Kd.R_slice HO_8.out
           subst eo84
           go_wp2_with (first | (go_at_call 17;(with_reducible refine (laws_eqPartS.calls kj19 _ _ t23 _ _ t10 false _ ?side1 ?side2 ?side3 ?side4 A74.out).mono ?_);(case side1=>exact cc_ (Kd.R_reads' HO_12.out).2.2);(case side2=>exact (Kd.R_reads' HO_12.out).2.1);(case side3=>exact cc_ (Kd.R_reads' HO_8.out).2.2);(case side4=>exact (Kd.R_reads' HO_8.out).2.1);rintro e w85 ⟨rfl,hb⟩;replace HO_8:=rb_ HO_8 hb;replace HO_9:=rb_ HO_9 hb;replace HO_11:=rb_ HO_11 hb;replace HO_12:=rb_ HO_12 hb;replace HO_13:=rb_ HO_13 hb;replace Z20:=rb_ Z20 hb;replace HO33:=rb_ HO33 hb;replace HO37:=rb_ HO37 hb;replace BK1:=kb_ BK1 hb;replace BK19:=kb_ BK19 hb;replace HB:=a0_ (below_step hb_ hb);(try clear hb);(try clear hb2);(try clear hk);(try clear hi)))
           go_meet
           case rel=>exact ⟨_,(true),(by first | rfl | (simp;done) | (simp [*];done)),H',⟨by have:=HJ19.out;first | omega | exact Nat.le_refl _⟩,⟨by (with_reducible repeat (first | apply Kd.R_alloc | apply Kd.R_drewN | apply Kd.R_drew));exact Kd.R_mono HO_8.out (fun _ hk=>⟨hk.1,⟨hk.2.2.1,hk.2.2.2.1⟩⟩)⟩,⟨by (with_reducible repeat (first | apply Kd.R_alloc | apply Kd.R_drewN | apply Kd.R_drew));exact Kd.R_mono HO_9.out (fun _ hk=>⟨hk.1,⟨hk.2.2.1,hk.2.2.2.1⟩⟩)⟩,⟨by (with_reducible repeat (first | apply Kd.R_alloc | apply Kd.R_drewN | apply Kd.R_drew));exact Kd.R_mono HO_12.out (fun _ hk=>⟨hk.1,⟨hk.2.1,hk.2.2.2.1⟩⟩)⟩,⟨by (with_reducible repeat (first | apply Kd.R_alloc | apply Kd.R_drewN | apply Kd.R_drew));exact Kd.R_mono HO_13.out (fun _ hk=>⟨hk.1,⟨hk.2.1,hk.2.2.2.1⟩⟩)⟩,⟨by (with_reducible repeat (first | apply Kd.R_alloc | apply Kd.R_drewN | apply Kd.R_drew));exact Kd.R_mono Z20.out (fun _ hk=>trivial)⟩,⟨by (with_reducible repeat (first | refine blk_drewN ?_ _ | refine blk_drew ?_ | refine blk_alloc ?_ _));exact BK1.out⟩,⟨by (with_reducible repeat (first | refine blk_drewN ?_ _ | refine blk_drew ?_ | refine blk_alloc ?_ _));exact BK19.out⟩,⟨hb_⟩⟩
        case rest =>
         clear HC61
         try clear c1
         try clear c2
         try clear p2
         try clear c3
         try clear c4
         try clear c5
         try clear c5b0
         try clear c6
         try clear c7
         try clear c9
         try clear c10
         try clear c10b0
         try clear c11
         try clear c13
         try clear c14
         try clear c16
         try clear c17
         try clear c20
         try clear c21
         try clear c34
         try clear c39
         try clear c40
         try clear c41
         try clear c52
         try clear c55
         try clear c58
         try clear c69
         try clear c73
         try clear c73b0
         try clear c75
         try clear hcz12_0
         try clear hcz22_0
         try clear hcz24_0
         try clear hcz30_0
         try clear hcz35_0
         try clear hcz37_0
         try clear hcz70_0
         try clear hcz7_0
         try clear hfz12_0
         try clear hfz22_0
         try clear hfz24_0
         try clear hfz30_0
         try clear hfz35_0
         try clear hfz37_0
         try clear hfz70_0
         try clear hfz7_0
         try clear p2
         obtain ⟨kq,x88_60,rfl,HA,HJ60,HO_8,HO_9,HO_12,HO_13,Z20,BK1,BK19,HB⟩:=hcut
         have hl20000_60:=(Kd.R_reads' Z20.out).1
         rw [hl20000_60] at Z20
         (try simp only [hl20000_60])
         (try simp only [hl20000_60] at BK1)
         (try simp only [hl20000_60] at BK19)
         (try simp only [hl20000_60] at HO_8)
         (try simp only [hl20000_60] at HO_9)
         (try simp only [hl20000_60] at HO_12)
         (try simp only [hl20000_60] at HO_13)
         cases kq with
         | zero=>exact absurd HA.out (by simp [laws_FnExactSplitGroup.j1])
         | succ kj60 =>
          have H:=HA.out
          clear HA
          simp only [laws_FnExactSplitGroup.j1] at H
          by_cases c86 : x88_60 = true
          ·subst c86
           have H1 : (some false) = some r:=by rw [if_pos rfl] at H;exact H
           clear H
           have H:=H1
           clear H1
           obtain rfl:=Option.some.inj H
           go_wp2
           go_ret
           exact ⟨by first | rfl | (simp [errW_none,errW_some] <;> rfl) | (simp [*,errW_none,errW_some] <;> rfl),hb_⟩
          ·replace c86:=Bool.eq_false_iff.mpr c86
           subst c86
           have H1 : ((laws_markPartS.f kj60 t23 1).bind fun bt45=>((laws_markPartS.f kj60 t26 bt45.1).bind fun bt47=>((laws_heldPartS.f kj60 bt45.2 1).bind fun t49=>(if t49 < 0 then (some false) else ((laws_heldPartS.f kj60 bt47.2 t49).bind fun t50=>(if t50 < 0 then (some false) else (if t50 = bt47.1 then ((laws_toTree.f kj60 l0_0).bind fun t51=>((laws_toPartS.f kj60 l1).bind fun t54=>((impl_SplitGroup.f t51 t54 a2).bind fun bt57=>((laws_eqPartS.f kj60 bt57.1 t10).bind fun t63=>(if t63 = true then ((laws_eqPartS.f kj60 bt57.2 t13).bind fun t64=>(laws_FnExactSplitGroup.j2 kj60 bt45.2 bt47.2 bt47.1 (!t64))) else (laws_FnExactSplitGroup.j2 kj60 bt45.2 bt47.2 bt47.1 true)))))) else (some false)))))))) = some r:=by rw [if_neg (show ¬ (false = true) by decide)] at H;exact H
           clear H
           have H:=H1
           clear H1
           replace H:=Option.bind_eq_some_iff.mp H
           obtain ⟨⟨t45,t46⟩,A870,H⟩:=H
           replace H : ((laws_markPartS.f kj60 t26 t45).bind fun bt47=>((laws_heldPartS.f kj60 t46 1).bind fun t49=>(if t49 < 0 then (some false) else ((laws_heldPartS.f kj60 bt47.2 t49).bind fun t50=>(if t50 < 0 then (some false) else (if t50 = bt47.1 then ((laws_toTree.f kj60 l0_0).bind fun t51=>((laws_toPartS.f kj60 l1).bind fun t54=>((impl_SplitGroup.f t51 t54 a2).bind fun bt57=>((laws_eqPartS.f kj60 bt57.1 t10).bind fun t63=>(if t63 = true then ((laws_eqPartS.f kj60 bt57.2 t13).bind fun t64=>(laws_FnExactSplitGroup.j2 kj60 t46 bt47.2 bt47.1 (!t64))) else (laws_FnExactSplitGroup.j2 kj60 t46 bt47.2 bt47.1 true)))))) else (some false))))))) = some r:=H
           have A87:=a0_ A870
           clear A870
           replace H:=Option.bind_eq_some_iff.mp H
           obtain ⟨⟨t47,t48⟩,A880,H⟩:=H
           replace H : ((laws_heldPartS.f kj60 t46 1).bind fun t49=>(if t49 < 0 then (some false) else ((laws_heldPartS.f kj60 t48 t49).bind fun t50=>(if t50 < 0 then (some false) else (if t50 = t47 then ((laws_toTree.f kj60 l0_0).bind fun t51=>((laws_toPartS.f kj60 l1).bind fun t54=>((impl_SplitGroup.f t51 t54 a2).bind fun bt57=>((laws_eqPartS.f kj60 bt57.1 t10).bind fun t63=>(if t63 = true then ((laws_eqPartS.f kj60 bt57.2 t13).bind fun t64=>(laws_FnExactSplitGroup.j2 kj60 t46 t48 t47 (!t64))) else (laws_FnExactSplitGroup.j2 kj60 t46 t48 t47 true)))))) else (some false)))))) = some r:=H
           have A88:=a0_ A880
           clear A880
           replace H:=Option.bind_eq_some_iff.mp H
           obtain ⟨t49,A890,H⟩:=H
           replace H : (if t49 < 0 then (some false) else ((laws_heldPartS.f kj60 t48 t49).bind fun t50=>(if t50 < 0 then (some false) else (if t50 = t47 then ((laws_toTree.f kj60 l0_0).bind fun t51=>((laws_toPartS.f kj60 l1).bind fun t54=>((impl_SplitGroup.f t51 t54 a2).bind fun bt57=>((laws_eqPartS.f kj60 bt57.1 t10).bind fun t63=>(if t63 = true then ((laws_eqPartS.f kj60 bt57.2 t13).bind fun t64=>(laws_FnExactSplitGroup.j2 kj60 t46 t48 t47 (!t64))) else (laws_FnExactSplitGroup.j2 kj60 t46 t48 t47 true)))))) else (some false))))) = some r:=H
           have A89:=a0_ A890
           clear A890
           by_cases c90 : t49 < 0
           ·rw [if_pos c90] at H
            have c90b0 : decide (t49 < 0) = true:=decide_eq_true c90
            clear c90
            obtain rfl:=Option.some.inj H
            obtain ⟨Ao91,co91,eo91⟩:=Kd.R_slice HO_12.out
            subst eo91
            go_wp2_with (first | ((with_reducible refine gate_callee (f:=21) rfl ?_);refine goesL_ (some 91) rfl rfl Try.func21 (by kernel_rfl) rfl #[.slice Ao91 t23.length co91,.int .i64 1] rfl lm_ ?_;(with_reducible refine (laws_markPartS.calls kj60 (fun k_=>some k_ = (.slice Ao91 t23.length co91 : Value).ownBlock) (.slice Ao91 t23.length co91) t23 1 t45 t46 w _ ?side1 ?side2 A87.out).mono ?_);(case side1=>exact hb_);(case side2=>exact Kd.R_tight rfl HO_12.out);rintro e w92 ⟨rfl,hy0,hb,hkp⟩;refine ⟨_,rfl,?_⟩;have n0_:=a0_ (Kd.R_mono (ok':=fun k_=>some k_ ≠ (v14 : Value).ownBlock ∧ some k_ ≠ (.slice Ao91 t23.length co91 : Value).ownBlock ∧ some k_ ≠ (v27 : Value).ownBlock) (Kd.R_keptB (HO_8.out) hkp (fun k_ hk_ hs_=>(hk_.2.1) hs_)) (fun k_ hk_=>⟨hk_.1.1,hk_.1.2.1,hk_.1.2.2⟩));have n1_:=a0_ (Kd.R_mono (ok':=fun k_=>some k_ ≠ (v11 : Value).ownBlock ∧ some k_ ≠ (.slice Ao91 t23.length co91 : Value).ownBlock ∧ some k_ ≠ (v27 : Value).ownBlock) (Kd.R_keptB (HO_9.out) hkp (fun k_ hk_ hs_=>(hk_.2.1) hs_)) (fun k_ hk_=>⟨hk_.1.1,hk_.1.2.1,hk_.1.2.2⟩));have n2_:=a0_ (Kd.R_reok rfl hy0 (fun k_ e_=>HO_12.out.1 k_ e_));have n3_:=a0_ (Kd.R_mono (ok':=fun k_=>some k_ ≠ (v11 : Value).ownBlock ∧ some k_ ≠ (v14 : Value).ownBlock ∧ some k_ ≠ (.slice Ao91 t23.length co91 : Value).ownBlock) (Kd.R_keptB (HO_13.out) hkp (fun k_ hk_ hs_=>(hk_.2.2) hs_)) (fun k_ hk_=>⟨hk_.1.1,hk_.1.2.1,hk_.1.2.2⟩));have n4_:=a0_ (Kd.R_mono (ok':=fun k_=>True) (Kd.R_keptB ((Kd.R_apart' Z20.out (Kd.R_typed HO_12.out) (by decide))) hkp (fun k_ hk_ hs_=>(hk_.2) hs_)) (fun k_ hk_=>trivial));have n5_:=a0_ (blk_kept (bb_ BK1.out) hkp (fun hs_=>(fun e_=>(Kd.R_ne HO_12.out BK1.out (by decide)) e_) hs_));have n6_:=a0_ (blk_kept (bb_ BK19.out) hkp (fun hs_=>(fun e_=>(Kd.R_ne HO_12.out BK19.out (by decide)) e_) hs_));have n7_:=a0_ (hb);clear HO_8 HO_9;clear HO_12 HO_13;clear Z20 BK1;clear BK19 HB;have HO_8:=n0_;have HO_9:=n1_;have HO_12:=n2_;have HO_13:=n3_;have Z20:=n4_;have BK1:=n5_;have BK19:=n6_;have HB:=n7_;clear n0_ n1_ n2_ n3_ n4_ n5_ n6_ n7_;(try clear hb);(try clear hkp);(try clear hy0);obtain ⟨Ao93,co93,eo93⟩:=Kd.R_slice HO_13.out;subst eo93) | ((with_reducible refine gate_callee (f:=21) rfl ?_);refine goesL_ (some 94) rfl rfl Try.func21 (by kernel_rfl) rfl #[.slice Ao93 t26.length co93,.int .i64 t45] rfl lm_ ?_;(with_reducible refine (laws_markPartS.calls kj60 (fun k_=>some k_ = (.slice Ao93 t26.length co93 : Value).ownBlock) (.slice Ao93 t26.length co93) t26 t45 t47 t48 w _ ?side1 ?side2 A88.out).mono ?_);(case side1=>exact hb_);(case side2=>exact Kd.R_tight rfl HO_13.out);rintro e w94 ⟨rfl,hy0,hb,hkp⟩;refine ⟨_,rfl,?_⟩;have n0_:=a0_ (Kd.R_mono (ok':=fun k_=>some k_ ≠ (v14 : Value).ownBlock ∧ some k_ ≠ (.slice Ao91 t23.length co91 : Value).ownBlock ∧ some k_ ≠ (.slice Ao93 t26.length co93 : Value).ownBlock) (Kd.R_keptB (HO_8.out) hkp (fun k_ hk_ hs_=>(hk_.2.2) hs_)) (fun k_ hk_=>⟨hk_.1.1,hk_.1.2.1,hk_.1.2.2⟩));have n1_:=a0_ (Kd.R_mono (ok':=fun k_=>some k_ ≠ (v11 : Value).ownBlock ∧ some k_ ≠ (.slice Ao91 t23.length co91 : Value).ownBlock ∧ some k_ ≠ (.slice Ao93 t26.length co93 : Value).ownBlock) (Kd.R_keptB (HO_9.out) hkp (fun k_ hk_ hs_=>(hk_.2.2) hs_)) (fun k_ hk_=>⟨hk_.1.1,hk_.1.2.1,hk_.1.2.2⟩));have n2_:=a0_ (Kd.R_mono (ok':=fun k_=>some k_ ≠ (v11 : Value).ownBlock ∧ some k_ ≠ (v14 : Value).ownBlock ∧ some k_ ≠ (.slice Ao93 t26.length co93 : Value).ownBlock) (Kd.R_keptB (HO_12.out) hkp (fun k_ hk_ hs_=>(hk_.2.2) hs_)) (fun k_ hk_=>⟨hk_.1.1,hk_.1.2.1,hk_.1.2.2⟩));have n3_:=a0_ (Kd.R_reok rfl hy0 (fun k_ e_=>HO_13.out.1 k_ e_));have n4_:=a0_ (Kd.R_mono (ok':=fun k_=>True) (Kd.R_keptB ((Kd.R_apart' Z20.out (Kd.R_typed HO_13.out) (by decide))) hkp (fun k_ hk_ hs_=>(hk_.2) hs_)) (fun k_ hk_=>trivial));have n5_:=a0_ (blk_kept (bb_ BK1.out) hkp (fun hs_=>(fun e_=>(Kd.R_ne HO_13.out BK1.out (by decide)) e_) hs_));have n6_:=a0_ (blk_kept (bb_ BK19.out) hkp (fun hs_=>(fun e_=>(Kd.R_ne HO_13.out BK19.out (by decide)) e_) hs_));have n7_:=a0_ (hb);clear HO_8 HO_9;clear HO_12 HO_13;clear Z20 BK1;clear BK19 HB;have HO_8:=n0_;have HO_9:=n1_;have HO_12:=n2_;have HO_13:=n3_;have Z20:=n4_;have BK1:=n5_;have BK19:=n6_;have HB:=n7_;clear n0_ n1_ n2_ n3_ n4_ n5_ n6_ n7_;(try clear hb);(try clear hkp);(try clear hy0)) | ((with_reducible refine gate_callee (f:=22) rfl ?_);refine goesL_ (some 97) rfl rfl Try.func22 (by kernel_rfl) rfl #[.slice Ao91 t46.length co91,.int .i64 1] rfl (by (try simp only [List.map_toArray,List.map_cons,List.map_nil]);first | done | (rw [show t46.length = t23.length from (Kd.R_reads' HO_12.out).1.symm] <;> rfl) | rfl | (simp only [List.length_drop,List.length_take];rfl)) ?_;(with_reducible refine (laws_heldPartS.calls kj60 _ _ t46 1 t49 _ ?side1 ?side2 A89.out).mono ?_);(case side1=>exact cc_ (Kd.R_reads' HO_12.out).2.2);(case side2=>rw [show t46.length = t23.length from (Kd.R_reads' HO_12.out).1.symm];exact (Kd.R_reads' HO_12.out).2.1);rintro e w' ⟨rfl,⟨nd,rfl⟩⟩;refine ⟨_,rfl,?_⟩))
            go_ret
            exact ⟨by first | rfl | (simp [errW_none,errW_some] <;> rfl) | (simp [*,errW_none,errW_some] <;> rfl),hb_⟩
           ·rw [if_neg c90] at H
            have c90b0 : decide (t49 < 0) = false:=decide_eq_false c90
            clear c90
            replace H:=Option.bind_eq_some_iff.mp H
            obtain ⟨t50,A950,H⟩:=H
            replace H : (if t50 < 0 then (some false) else (if t50 = t47 then ((laws_toTree.f kj60 l0_0).bind fun t51=>((laws_toPartS.f kj60 l1).bind fun t54=>((impl_SplitGroup.f t51 t54 a2).bind fun bt57=>((laws_eqPartS.f kj60 bt57.1 t10).bind fun t63=>(if t63 = true then ((laws_eqPartS.f kj60 bt57.2 t13).bind fun t64=>(laws_FnExactSplitGroup.j2 kj60 t46 t48 t47 (!t64))) else (laws_FnExactSplitGroup.j2 kj60 t46 t48 t47 true)))))) else (some false))) = some r:=H
            have A95:=a0_ A950
            clear A950
            by_cases c96 : t50 < 0
            ·rw [if_pos c96] at H
             have c96b0 : decide (t50 < 0) = true:=decide_eq_true c96
             clear c96
             obtain rfl:=Option.some.inj H
             obtain ⟨Ao97,co97,eo97⟩:=Kd.R_slice HO_12.out
             subst eo97
             go_wp2_with (first | ((with_reducible refine gate_callee (f:=21) rfl ?_);refine goesL_ (some 91) rfl rfl Try.func21 (by kernel_rfl) rfl #[.slice Ao97 t23.length co97,.int .i64 1] rfl lm_ ?_;(with_reducible refine (laws_markPartS.calls kj60 (fun k_=>some k_ = (.slice Ao97 t23.length co97 : Value).ownBlock) (.slice Ao97 t23.length co97) t23 1 t45 t46 w _ ?side1 ?side2 A87.out).mono ?_);(case side1=>exact hb_);(case side2=>exact Kd.R_tight rfl HO_12.out);rintro e w98 ⟨rfl,hy0,hb,hkp⟩;refine ⟨_,rfl,?_⟩;have n0_:=a0_ (Kd.R_mono (ok':=fun k_=>some k_ ≠ (v14 : Value).ownBlock ∧ some k_ ≠ (.slice Ao97 t23.length co97 : Value).ownBlock ∧ some k_ ≠ (v27 : Value).ownBlock) (Kd.R_keptB (HO_8.out) hkp (fun k_ hk_ hs_=>(hk_.2.1) hs_)) (fun k_ hk_=>⟨hk_.1.1,hk_.1.2.1,hk_.1.2.2⟩));have n1_:=a0_ (Kd.R_mono (ok':=fun k_=>some k_ ≠ (v11 : Value).ownBlock ∧ some k_ ≠ (.slice Ao97 t23.length co97 : Value).ownBlock ∧ some k_ ≠ (v27 : Value).ownBlock) (Kd.R_keptB (HO_9.out) hkp (fun k_ hk_ hs_=>(hk_.2.1) hs_)) (fun k_ hk_=>⟨hk_.1.1,hk_.1.2.1,hk_.1.2.2⟩));have n2_:=a0_ (Kd.R_reok rfl hy0 (fun k_ e_=>HO_12.out.1 k_ e_));have n3_:=a0_ (Kd.R_mono (ok':=fun k_=>some k_ ≠ (v11 : Value).ownBlock ∧ some k_ ≠ (v14 : Value).ownBlock ∧ some k_ ≠ (.slice Ao97 t23.length co97 : Value).ownBlock) (Kd.R_keptB (HO_13.out) hkp (fun k_ hk_ hs_=>(hk_.2.2) hs_)) (fun k_ hk_=>⟨hk_.1.1,hk_.1.2.1,hk_.1.2.2⟩));have n4_:=a0_ (Kd.R_mono (ok':=fun k_=>True) (Kd.R_keptB ((Kd.R_apart' Z20.out (Kd.R_typed HO_12.out) (by decide))) hkp (fun k_ hk_ hs_=>(hk_.2) hs_)) (fun k_ hk_=>trivial));have n5_:=a0_ (blk_kept (bb_ BK1.out) hkp (fun hs_=>(fun e_=>(Kd.R_ne HO_12.out BK1.out (by decide)) e_) hs_));have n6_:=a0_ (blk_kept (bb_ BK19.out) hkp (fun hs_=>(fun e_=>(Kd.R_ne HO_12.out BK19.out (by decide)) e_) hs_));have n7_:=a0_ (hb);clear HO_8 HO_9;clear HO_12 HO_13;clear Z20 BK1;clear BK19 HB;have HO_8:=n0_;have HO_9:=n1_;have HO_12:=n2_;have HO_13:=n3_;have Z20:=n4_;have BK1:=n5_;have BK19:=n6_;have HB:=n7_;clear n0_ n1_ n2_ n3_ n4_ n5_ n6_ n7_;(try clear hb);(try clear hkp);(try clear hy0);obtain ⟨Ao99,co99,eo99⟩:=Kd.R_slice HO_13.out;subst eo99) | ((with_reducible refine gate_callee (f:=21) rfl ?_);refine goesL_ (some 94) rfl rfl Try.func21 (by kernel_rfl) rfl #[.slice Ao99 t26.length co99,.int .i64 t45] rfl lm_ ?_;(with_reducible refine (laws_markPartS.calls kj60 (fun k_=>some k_ = (.slice Ao99 t26.length co99 : Value).ownBlock) (.slice Ao99 t26.length co99) t26 t45 t47 t48 w _ ?side1 ?side2 A88.out).mono ?_);(case side1=>exact hb_);(case side2=>exact Kd.R_tight rfl HO_13.out);rintro e w100 ⟨rfl,hy0,hb,hkp⟩;refine ⟨_,rfl,?_⟩;have n0_:=a0_ (Kd.R_mono (ok':=fun k_=>some k_ ≠ (v14 : Value).ownBlock ∧ some k_ ≠ (.slice Ao97 t23.length co97 : Value).ownBlock ∧ some k_ ≠ (.slice Ao99 t26.length co99 : Value).ownBlock) (Kd.R_keptB (HO_8.out) hkp (fun k_ hk_ hs_=>(hk_.2.2) hs_)) (fun k_ hk_=>⟨hk_.1.1,hk_.1.2.1,hk_.1.2.2⟩));have n1_:=a0_ (Kd.R_mono (ok':=fun k_=>some k_ ≠ (v11 : Value).ownBlock ∧ some k_ ≠ (.slice Ao97 t23.length co97 : Value).ownBlock ∧ some k_ ≠ (.slice Ao99 t26.length co99 : Value).ownBlock) (Kd.R_keptB (HO_9.out) hkp (fun k_ hk_ hs_=>(hk_.2.2) hs_)) (fun k_ hk_=>⟨hk_.1.1,hk_.1.2.1,hk_.1.2.2⟩));have n2_:=a0_ (Kd.R_mono (ok':=fun k_=>some k_ ≠ (v11 : Value).ownBlock ∧ some k_ ≠ (v14 : Value).ownBlock ∧ some k_ ≠ (.slice Ao99 t26.length co99 : Value).ownBlock) (Kd.R_keptB (HO_12.out) hkp (fun k_ hk_ hs_=>(hk_.2.2) hs_)) (fun k_ hk_=>⟨hk_.1.1,hk_.1.2.1,hk_.1.2.2⟩));have n3_:=a0_ (Kd.R_reok rfl hy0 (fun k_ e_=>HO_13.out.1 k_ e_));have n4_:=a0_ (Kd.R_mono (ok':=fun k_=>True) (Kd.R_keptB ((Kd.R_apart' Z20.out (Kd.R_typed HO_13.out) (by decide))) hkp (fun k_ hk_ hs_=>(hk_.2) hs_)) (fun k_ hk_=>trivial));have n5_:=a0_ (blk_kept (bb_ BK1.out) hkp (fun hs_=>(fun e_=>(Kd.R_ne HO_13.out BK1.out (by decide)) e_) hs_));have n6_:=a0_ (blk_kept (bb_ BK19.out) hkp (fun hs_=>(fun e_=>(Kd.R_ne HO_13.out BK19.out (by decide)) e_) hs_));have n7_:=a0_ (hb);clear HO_8 HO_9;clear HO_12 HO_13;clear Z20 BK1;clear BK19 HB;have HO_8:=n0_;have HO_9:=n1_;have HO_12:=n2_;have HO_13:=n3_;have Z20:=n4_;have BK1:=n5_;have BK19:=n6_;have HB:=n7_;clear n0_ n1_ n2_ n3_ n4_ n5_ n6_ n7_;(try clear hb);(try clear hkp);(try clear hy0)) | ((with_reducible refine gate_callee (f:=22) rfl ?_);refine goesL_ (some 97) rfl rfl Try.func22 (by kernel_rfl) rfl #[.slice Ao97 t46.length co97,.int .i64 1] rfl (by (try simp only [List.map_toArray,List.map_cons,List.map_nil]);first | done | (rw [show t46.length = t23.length from (Kd.R_reads' HO_12.out).1.symm] <;> rfl) | rfl | (simp only [List.length_drop,List.length_take];rfl)) ?_;(with_reducible refine (laws_heldPartS.calls kj60 _ _ t46 1 t49 _ ?side1 ?side2 A89.out).mono ?_);(case side1=>exact cc_ (Kd.R_reads' HO_12.out).2.2);(case side2=>rw [show t46.length = t23.length from (Kd.R_reads' HO_12.out).1.symm];exact (Kd.R_reads' HO_12.out).2.1);rintro e w' ⟨rfl,⟨nd,rfl⟩⟩;refine ⟨_,rfl,?_⟩) | ((with_reducible refine gate_callee (f:=22) rfl ?_);refine goesL_ (some 102) rfl rfl Try.func22 (by kernel_rfl) rfl #[.slice Ao99 t48.length co99,.int .i64 t49] rfl (by (try simp only [List.map_toArray,List.map_cons,List.map_nil]);first | done | (rw [show t48.length = t26.length from (Kd.R_reads' HO_13.out).1.symm] <;> rfl) | rfl | (simp only [List.length_drop,List.length_take];rfl)) ?_;(with_reducible refine (laws_heldPartS.calls kj60 _ _ t48 t49 t50 _ ?side1 ?side2 A95.out).mono ?_);(case side1=>exact cc_ (Kd.R_reads' HO_13.out).2.2);(case side2=>rw [show t48.length = t26.length from (Kd.R_reads' HO_13.out).1.symm];exact (Kd.R_reads' HO_13.out).2.1);rintro e w' ⟨rfl,⟨nd,rfl⟩⟩;refine ⟨_,rfl,?_⟩))
             go_ret
             exact ⟨by first | rfl | (simp [errW_none,errW_some] <;> rfl) | (simp [*,errW_none,errW_some] <;> rfl),hb_⟩
            ·rw [if_neg c96] at H
             have c96b0 : decide (t50 < 0) = false:=decide_eq_false c96
             clear c96
             by_cases c101 : t50 = t47
             ·rw [if_pos c101] at H
              have c101b0 : (t50 == t47) = true:=beq_iff_eq.mpr c101
              have c101b1 : (t50 != t47) = false:=bne_eq_false_iff_eq.mpr c101
              clear c101
              replace H:=Option.bind_eq_some_iff.mp H
              obtain ⟨t51,A1020,H⟩:=H
              replace H : ((laws_toPartS.f kj60 l1).bind fun t54=>((impl_SplitGroup.f t51 t54 a2).bind fun bt57=>((laws_eqPartS.f kj60 bt57.1 t10).bind fun t63=>(if t63 = true then ((laws_eqPartS.f kj60 bt57.2 t13).bind fun t64=>(laws_FnExactSplitGroup.j2 kj60 t46 t48 t47 (!t64))) else (laws_FnExactSplitGroup.j2 kj60 t46 t48 t47 true))))) = some r:=H
              have A102:=a0_ A1020
              clear A1020
              replace H:=Option.bind_eq_some_iff.mp H
              obtain ⟨t54,A1030,H⟩:=H
              replace H : ((impl_SplitGroup.f t51 t54 a2).bind fun bt57=>((laws_eqPartS.f kj60 bt57.1 t10).bind fun t63=>(if t63 = true then ((laws_eqPartS.f kj60 bt57.2 t13).bind fun t64=>(laws_FnExactSplitGroup.j2 kj60 t46 t48 t47 (!t64))) else (laws_FnExactSplitGroup.j2 kj60 t46 t48 t47 true)))) = some r:=H
              have A103:=a0_ A1030
              clear A1030
              replace H:=Option.bind_eq_some_iff.mp H
              obtain ⟨⟨t57,t60⟩,A1040,H⟩:=H
              replace H : ((laws_eqPartS.f kj60 t57 t10).bind fun t63=>(if t63 = true then ((laws_eqPartS.f kj60 t60 t13).bind fun t64=>(laws_FnExactSplitGroup.j2 kj60 t46 t48 t47 (!t64))) else (laws_FnExactSplitGroup.j2 kj60 t46 t48 t47 true))) = some r:=H
              have A104:=a0_ A1040
              clear A1040
              have HC105:=a0_ H
              clear H
              obtain ⟨Ao106,co106,eo106⟩:=Kd.R_slice HO_12.out
              subst eo106
              go_upto_region 36 with (first | ((with_reducible refine gate_callee (f:=21) rfl ?_);refine goesL_ (some 91) rfl rfl Try.func21 (by kernel_rfl) rfl #[.slice Ao106 t23.length co106,.int .i64 1] rfl lm_ ?_;(with_reducible refine (laws_markPartS.calls kj60 (fun k_=>some k_ = (.slice Ao106 t23.length co106 : Value).ownBlock) (.slice Ao106 t23.length co106) t23 1 t45 t46 w _ ?side1 ?side2 A87.out).mono ?_);(case side1=>exact hb_);(case side2=>exact Kd.R_tight rfl HO_12.out);rintro e w107 ⟨rfl,hy0,hb,hkp⟩;refine ⟨_,rfl,?_⟩;have n0_:=a0_ (Kd.R_mono (ok':=fun k_=>some k_ ≠ (v14 : Value).ownBlock ∧ some k_ ≠ (.slice Ao106 t23.length co106 : Value).ownBlock ∧ some k_ ≠ (v27 : Value).ownBlock) (Kd.R_keptB (HO_8.out) hkp (fun k_ hk_ hs_=>(hk_.2.1) hs_)) (fun k_ hk_=>⟨hk_.1.1,hk_.1.2.1,hk_.1.2.2⟩));have n1_:=a0_ (Kd.R_mono (ok':=fun k_=>some k_ ≠ (v11 : Value).ownBlock ∧ some k_ ≠ (.slice Ao106 t23.length co106 : Value).ownBlock ∧ some k_ ≠ (v27 : Value).ownBlock) (Kd.R_keptB (HO_9.out) hkp (fun k_ hk_ hs_=>(hk_.2.1) hs_)) (fun k_ hk_=>⟨hk_.1.1,hk_.1.2.1,hk_.1.2.2⟩));have n2_:=a0_ (Kd.R_reok rfl hy0 (fun k_ e_=>HO_12.out.1 k_ e_));have n3_:=a0_ (Kd.R_mono (ok':=fun k_=>some k_ ≠ (v11 : Value).ownBlock ∧ some k_ ≠ (v14 : Value).ownBlock ∧ some k_ ≠ (.slice Ao106 t23.length co106 : Value).ownBlock) (Kd.R_keptB (HO_13.out) hkp (fun k_ hk_ hs_=>(hk_.2.2) hs_)) (fun k_ hk_=>⟨hk_.1.1,hk_.1.2.1,hk_.1.2.2⟩));have n4_:=a0_ (Kd.R_mono (ok':=fun k_=>True) (Kd.R_keptB ((Kd.R_apart' Z20.out (Kd.R_typed HO_12.out) (by decide))) hkp (fun k_ hk_ hs_=>(hk_.2) hs_)) (fun k_ hk_=>trivial));have n5_:=a0_ (blk_kept (bb_ BK1.out) hkp (fun hs_=>(fun e_=>(Kd.R_ne HO_12.out BK1.out (by decide)) e_) hs_));have n6_:=a0_ (blk_kept (bb_ BK19.out) hkp (fun hs_=>(fun e_=>(Kd.R_ne HO_12.out BK19.out (by decide)) e_) hs_));have n7_:=a0_ (hb);clear HO_8 HO_9;clear HO_12 HO_13;clear Z20 BK1;clear BK19 HB;have HO_8:=n0_;have HO_9:=n1_;have HO_12:=n2_;have HO_13:=n3_;have Z20:=n4_;have BK1:=n5_;have BK19:=n6_;have HB:=n7_;clear n0_ n1_ n2_ n3_ n4_ n5_ n6_ n7_;(try clear hb);(try clear hkp);(try clear hy0);obtain ⟨Ao108,co108,eo108⟩:=Kd.R_slice HO_13.out;subst eo108) | ((with_reducible refine gate_callee (f:=21) rfl ?_);refine goesL_ (some 94) rfl rfl Try.func21 (by kernel_rfl) rfl #[.slice Ao108 t26.length co108,.int .i64 t45] rfl lm_ ?_;(with_reducible refine (laws_markPartS.calls kj60 (fun k_=>some k_ = (.slice Ao108 t26.length co108 : Value).ownBlock) (.slice Ao108 t26.length co108) t26 t45 t47 t48 w _ ?side1 ?side2 A88.out).mono ?_);(case side1=>exact hb_);(case side2=>exact Kd.R_tight rfl HO_13.out);rintro e w109 ⟨rfl,hy0,hb,hkp⟩;refine ⟨_,rfl,?_⟩;have n0_:=a0_ (Kd.R_mono (ok':=fun k_=>some k_ ≠ (v14 : Value).ownBlock ∧ some k_ ≠ (.slice Ao106 t23.length co106 : Value).ownBlock ∧ some k_ ≠ (.slice Ao108 t26.length co108 : Value).ownBlock) (Kd.R_keptB (HO_8.out) hkp (fun k_ hk_ hs_=>(hk_.2.2) hs_)) (fun k_ hk_=>⟨hk_.1.1,hk_.1.2.1,hk_.1.2.2⟩));have n1_:=a0_ (Kd.R_mono (ok':=fun k_=>some k_ ≠ (v11 : Value).ownBlock ∧ some k_ ≠ (.slice Ao106 t23.length co106 : Value).ownBlock ∧ some k_ ≠ (.slice Ao108 t26.length co108 : Value).ownBlock) (Kd.R_keptB (HO_9.out) hkp (fun k_ hk_ hs_=>(hk_.2.2) hs_)) (fun k_ hk_=>⟨hk_.1.1,hk_.1.2.1,hk_.1.2.2⟩));have n2_:=a0_ (Kd.R_mono (ok':=fun k_=>some k_ ≠ (v11 : Value).ownBlock ∧ some k_ ≠ (v14 : Value).ownBlock ∧ some k_ ≠ (.slice Ao108 t26.length co108 : Value).ownBlock) (Kd.R_keptB (HO_12.out) hkp (fun k_ hk_ hs_=>(hk_.2.2) hs_)) (fun k_ hk_=>⟨hk_.1.1,hk_.1.2.1,hk_.1.2.2⟩));have n3_:=a0_ (Kd.R_reok rfl hy0 (fun k_ e_=>HO_13.out.1 k_ e_));have n4_:=a0_ (Kd.R_mono (ok':=fun k_=>True) (Kd.R_keptB ((Kd.R_apart' Z20.out (Kd.R_typed HO_13.out) (by decide))) hkp (fun k_ hk_ hs_=>(hk_.2) hs_)) (fun k_ hk_=>trivial));have n5_:=a0_ (blk_kept (bb_ BK1.out) hkp (fun hs_=>(fun e_=>(Kd.R_ne HO_13.out BK1.out (by decide)) e_) hs_));have n6_:=a0_ (blk_kept (bb_ BK19.out) hkp (fun hs_=>(fun e_=>(Kd.R_ne HO_13.out BK19.out (by decide)) e_) hs_));have n7_:=a0_ (hb);clear HO_8 HO_9;clear HO_12 HO_13;clear Z20 BK1;clear BK19 HB;have HO_8:=n0_;have HO_9:=n1_;have HO_12:=n2_;have HO_13:=n3_;have Z20:=n4_;have BK1:=n5_;have BK19:=n6_;have HB:=n7_;clear n0_ n1_ n2_ n3_ n4_ n5_ n6_ n7_;(try clear hb);(try clear hkp);(try clear hy0)) | ((with_reducible refine gate_callee (f:=22) rfl ?_);refine goesL_ (some 97) rfl rfl Try.func22 (by kernel_rfl) rfl #[.slice Ao106 t46.length co106,.int .i64 1] rfl (by (try simp only [List.map_toArray,List.map_cons,List.map_nil]);first | done | (rw [show t46.length = t23.length from (Kd.R_reads' HO_12.out).1.symm] <;> rfl) | rfl | (simp only [List.length_drop,List.length_take];rfl)) ?_;(with_reducible refine (laws_heldPartS.calls kj60 _ _ t46 1 t49 _ ?side1 ?side2 A89.out).mono ?_);(case side1=>exact cc_ (Kd.R_reads' HO_12.out).2.2);(case side2=>rw [show t46.length = t23.length from (Kd.R_reads' HO_12.out).1.symm];exact (Kd.R_reads' HO_12.out).2.1);rintro e w' ⟨rfl,⟨nd,rfl⟩⟩;refine ⟨_,rfl,?_⟩) | ((with_reducible refine gate_callee (f:=22) rfl ?_);refine goesL_ (some 102) rfl rfl Try.func22 (by kernel_rfl) rfl #[.slice Ao108 t48.length co108,.int .i64 t49] rfl (by (try simp only [List.map_toArray,List.map_cons,List.map_nil]);first | done | (rw [show t48.length = t26.length from (Kd.R_reads' HO_13.out).1.symm] <;> rfl) | rfl | (simp only [List.length_drop,List.length_take];rfl)) ?_;(with_reducible refine (laws_heldPartS.calls kj60 _ _ t48 t49 t50 _ ?side1 ?side2 A95.out).mono ?_);(case side1=>exact cc_ (Kd.R_reads' HO_13.out).2.2);(case side2=>rw [show t48.length = t26.length from (Kd.R_reads' HO_13.out).1.symm];exact (Kd.R_reads' HO_13.out).2.1);rintro e w' ⟨rfl,⟨nd,rfl⟩⟩;refine ⟨_,rfl,?_⟩;have hnb110:=NB1_19.out;have hnc110:=NB19_1.out;have hcz111_0 : w109.cell? ⟨gb1,0,none⟩ = some (.slice A0_0 l0_0.length c0_0):=(blk_cell BK1.out 0).trans rfl;have hfz111_0:=blk_frozen BK1.out 0) | ((with_reducible refine gate_callee (f:=13) rfl ?_);refine goesL_ (some 110) rfl rfl Try.func13 (by kernel_rfl) rfl #[.agg #[.slice A0_0 l0_0.length c0_0]] rfl lm_ ?_;(with_reducible refine (laws_toTree.calls kj60 _ _ l0_0 t51 _ ?side1 ?side2 A102.out).mono ?_);(case side1=>repeat (first | exact (Kd.C_below HR0_0.out hb_) | (with_reducible refine Kd.C_alloc ?_ _) | (with_reducible refine Kd.C_drewN ?_ _) | (with_reducible refine Kd.C_drew ?_)));(case side2=>exact HC0_0.out);rintro e w112 ⟨v52,rfl,ho0,hb⟩;refine ⟨_,rfl,?_⟩;have n0_:=rb_ HO_8 hb;have n1_:=rb_ HO_9 hb;have n2_:=rb_ HO_12 hb;have n3_:=rb_ HO_13 hb;have n4_:=a0_ (Kd.R_elder' (rr_ Z20.out) (Kd.R_base ho0) hb);have n5_:=a0_ (Kd.R_lower (Kd.R_new' ho0 (Kd.R_lt (rr_ Z20.out))) (below_size hb_));have n6_:=kb_ BK1 hb;have n7_:=kb_ BK19 hb;have n8_:=a0_ (below_step hb_ hb);clear HO_8 HO_9;clear HO_12 HO_13;clear Z20 BK1;clear BK19 HB;have HO_8:=n0_;have HO_9:=n1_;have HO_12:=n2_;have HO_13:=n3_;have Z20:=n4_;have HO53:=n5_;have BK1:=n6_;have BK19:=n7_;have HB:=n8_;clear n0_ n1_ n2_ n3_ n4_ n5_ n6_ n7_ n8_;(try clear hb);(try clear ho0)) | ((with_reducible refine gate_callee (f:=14) rfl ?_);refine goesL_ (some 112) rfl rfl Try.func14 (by kernel_rfl) rfl #[.slice A1 l1.length c1] rfl lm_ ?_;(with_reducible refine (laws_toPartS.calls kj60 _ _ l1 t54 _ ?side1 ?side2 A103.out).mono ?_);(case side1=>exact cc_ (Kd.C_below HR1.out HB.out));(case side2=>exact HC1.out);rintro e w113 ⟨v55,rfl,ho0,hb⟩;refine ⟨_,rfl,?_⟩;have n0_:=a0_ (Kd.R_elder' (rr_ HO_8.out) (Kd.R_base ho0) hb);have n1_:=a0_ (Kd.R_elder' (rr_ HO_9.out) (Kd.R_base ho0) hb);have n2_:=a0_ (Kd.R_elder' (rr_ HO_12.out) (Kd.R_base ho0) hb);have n3_:=a0_ (Kd.R_elder' (rr_ HO_13.out) (Kd.R_base ho0) hb);have n4_:=rb_ Z20 hb;have n5_:=rb_ HO53 hb;have n6_:=a0_ (Kd.R_lower (Kd.R_new' (Kd.R_new' (Kd.R_new' (Kd.R_new' ho0 (Kd.R_lt (rr_ HO_8.out))) (Kd.R_lt (rr_ HO_9.out))) (Kd.R_lt (rr_ HO_12.out))) (Kd.R_lt (rr_ HO_13.out))) (below_size hb_));have n7_:=kb_ BK1 hb;have n8_:=kb_ BK19 hb;have n9_:=a0_ (below_step hb_ hb);clear HO_8 HO_9;clear HO_12 HO_13;clear Z20 HO53;clear BK1 BK19 HB;have HO_8:=n0_;have HO_9:=n1_;have HO_12:=n2_;have HO_13:=n3_;have Z20:=n4_;have HO53:=n5_;have HO56:=n6_;have BK1:=n7_;have BK19:=n8_;have HB:=n9_;clear n0_ n1_ n2_ n3_ n4_ n5_ n6_ n7_ n8_ n9_;(try clear hb);(try clear ho0);obtain ⟨Ao114,co114,eo114⟩:=Kd.R_slice HO53.out;subst eo114;obtain ⟨Ao115,co115,eo115⟩:=Kd.R_slice HO56.out;subst eo115) | ((with_reducible refine gate_callee (f:=40) rfl ?_);refine goesL_ (some 114) rfl rfl Try.func40 (by kernel_rfl) rfl #[.agg #[.slice Ao114 t51.length co114],.slice Ao115 t54.length co115,.int .i64 a2] rfl lm_ ?_;(with_reducible refine (impl_SplitGroup.calls _ _ t51 _ _ t54 a2 t57 t60 _ ?side1 ?side2 ?side3 ?side4 A104.out).mono ?_);(case side1=>exact cc_ (Kd.R_reads' HO53.out).2.2);(case side2=>exact (Kd.R_reads' HO53.out).2.1);(case side3=>exact cc_ (Kd.R_reads' HO56.out).2.2);(case side4=>exact (Kd.R_reads' HO56.out).2.1);rintro e w116 ⟨v58,v61,rfl,ho0,ho1,hb⟩;refine ⟨_,rfl,?_⟩;have n0_:=a0_ (Kd.R_mono (Kd.R_told (Kd.R_told (Kd.R_old (rr_ HO_8.out) hb) (Kd.R_base ho0)) (Kd.R_base ho1)) (fun _ h_=>h_.1));have n1_:=a0_ (Kd.R_mono (Kd.R_told (Kd.R_told (Kd.R_old (rr_ HO_9.out) hb) (Kd.R_base ho0)) (Kd.R_base ho1)) (fun _ h_=>h_.1));have n2_:=a0_ (Kd.R_mono (Kd.R_told (Kd.R_told (Kd.R_old (rr_ HO_12.out) hb) (Kd.R_base ho0)) (Kd.R_base ho1)) (fun _ h_=>h_.1));have n3_:=a0_ (Kd.R_mono (Kd.R_told (Kd.R_told (Kd.R_old (rr_ HO_13.out) hb) (Kd.R_base ho0)) (Kd.R_base ho1)) (fun _ h_=>h_.1));have n4_:=rb_ Z20 hb;have n5_:=rb_ HO53 hb;have n6_:=a0_ (Kd.R_mono (Kd.R_told (Kd.R_told (Kd.R_old (rr_ HO56.out) hb) (Kd.R_base ho0)) (Kd.R_base ho1)) (fun _ h_=>h_.1));have n7_:=a0_ (Kd.R_lower (Kd.R_new' (Kd.R_new' (Kd.R_new' (Kd.R_new' (Kd.R_new' ho0 (Kd.R_lt (rr_ HO_8.out))) (Kd.R_lt (rr_ HO_9.out))) (Kd.R_lt (rr_ HO_12.out))) (Kd.R_lt (rr_ HO_13.out))) (Kd.R_lt (rr_ HO56.out))) (below_size hb_));have n8_:=a0_ (Kd.R_lower (Kd.R_new' (Kd.R_new' (Kd.R_new' (Kd.R_new' (Kd.R_new' ho1 (Kd.R_lt (rr_ HO_8.out))) (Kd.R_lt (rr_ HO_9.out))) (Kd.R_lt (rr_ HO_12.out))) (Kd.R_lt (rr_ HO_13.out))) (Kd.R_lt (rr_ HO56.out))) (below_size hb_));have n9_:=kb_ BK1 hb;have n10_:=kb_ BK19 hb;have n11_:=a0_ (below_step hb_ hb);clear HO_8 HO_9;clear HO_12 HO_13;clear Z20 HO53;clear HO56 BK1;clear BK19 HB;have HO_8:=n0_;have HO_9:=n1_;have HO_12:=n2_;have HO_13:=n3_;have Z20:=n4_;have HO53:=n5_;have HO56:=n6_;have HO59:=n7_;have HO62:=n8_;have BK1:=n9_;have BK19:=n10_;have HB:=n11_;clear n0_ n1_ n2_ n3_ n4_ n5_ n6_ n7_ n8_ n9_ n10_ n11_;(try clear hb);(try clear ho0);(try clear ho1)))
              (try simp only [Act.put,s1_,s2_,s3_])
              go_cut [126] (fun v126 wc=>∃ (kq : Nat) (x126_104 : Bool),v126 = .bool x126_104 ∧ Aside0 (laws_FnExactSplitGroup.j2 kq t46 t48 t47 x126_104 = some r) ∧ Aside0 (kq ≤ kj60) ∧ Aside0 (Kd.R k63 63 wc w.heap.size (fun k_=>some k_ ≠ ((.slice Ao108 t26.length co108) : Value).ownBlock) (.slice Ao106 t23.length co106) t46) ∧ Aside0 (Kd.R k63 63 wc w.heap.size (fun k_=>some k_ ≠ ((.slice Ao106 t23.length co106) : Value).ownBlock) (.slice Ao108 t26.length co108) t48) ∧ Aside0 (Kd.R k89 89 wc w.heap.size (fun _=>True) (.slice Ao33 t40.length co33) t40) ∧ Aside0 (wc.heap[gb1]? = some (.cells #[(.slice A0_0 l0_0.length c0_0)] 24 (0,0))) ∧ Aside0 (wc.heap[gb19]? = some (.cells #[(.slice Ao33 t40.length co33)] 31 (0,0))) ∧ Aside0 (Below w.heap.size w wc))
              case first =>
               have H:=HC105.out
               clear HC105
               replace H:=Option.bind_eq_some_iff.mp H
               obtain ⟨t63,A1170,H⟩:=H
               replace H : (if t63 = true then ((laws_eqPartS.f kj60 t60 t13).bind fun t64=>(laws_FnExactSplitGroup.j2 kj60 t46 t48 t47 (!t64))) else (laws_FnExactSplitGroup.j2 kj60 t46 t48 t47 true)) = some r:=H
               have A117:=a0_ A1170
               clear A1170
               by_cases c118 : t63 = true
               ·subst c118
                have H1 : ((laws_eqPartS.f kj60 t60 t13).bind fun t64=>(laws_FnExactSplitGroup.j2 kj60 t46 t48 t47 (!t64))) = some r:=by rw [if_pos rfl] at H;exact H
                clear H
                have H:=H1
                clear H1
                replace H:=Option.bind_eq_some_iff.mp H
                obtain ⟨t64,A1190,H⟩:=H
                replace H : (laws_FnExactSplitGroup.j2 kj60 t46 t48 t47 (!t64)) = some r:=H
                have A119:=a0_ A1190
                clear A1190
                have H':=a0_ H
                clear H
                obtain ⟨Ao120,co120,eo120⟩:=Kd.R_slice HO59.out
                subst eo120
                obtain ⟨Ao121,co121,eo121⟩:=Kd.R_slice HO_8.out
                subst eo121
                go_wp2_with (first | ((with_reducible refine gate_callee (f:=17) rfl ?_);refine goesL_ (some 119) rfl rfl Try.func17 (by kernel_rfl) rfl #[.slice Ao120 t57.length co120,.slice Ao121 t10.length co121] rfl lm_ ?_;(with_reducible refine (laws_eqPartS.calls kj60 _ _ t57 _ _ t10 true _ ?side1 ?side2 ?side3 ?side4 A117.out).mono ?_);(case side1=>exact cc_ (Kd.R_reads' HO59.out).2.2);(case side2=>exact (Kd.R_reads' HO59.out).2.1);(case side3=>exact cc_ (Kd.R_reads' HO_8.out).2.2);(case side4=>exact (Kd.R_reads' HO_8.out).2.1);rintro e w122 ⟨rfl,hb⟩;refine ⟨_,rfl,?_⟩;replace HO_8:=rb_ HO_8 hb;replace HO_9:=rb_ HO_9 hb;replace HO_12:=rb_ HO_12 hb;replace HO_13:=rb_ HO_13 hb;replace Z20:=rb_ Z20 hb;replace HO53:=rb_ HO53 hb;replace HO56:=rb_ HO56 hb;replace HO59:=rb_ HO59 hb;replace HO62:=rb_ HO62 hb;replace BK1:=kb_ BK1 hb;replace BK19:=kb_ BK19 hb;replace HB:=a0_ (below_step hb_ hb);(try clear hb);obtain ⟨Ao123,co123,eo123⟩:=Kd.R_slice HO62.out;subst eo123;obtain ⟨Ao124,co124,eo124⟩:=Kd.R_slice HO_9.out;subst eo124) | (go_at_call 17;(with_reducible refine (laws_eqPartS.calls kj60 _ _ t60 _ _ t13 t64 _ ?side1 ?side2 ?side3 ?side4 A119.out).mono ?_);(case side1=>exact cc_ (Kd.R_reads' HO62.out).2.2);(case side2=>exact (Kd.R_reads' HO62.out).2.1);(case side3=>exact cc_ (Kd.R_reads' HO_9.out).2.2);(case side4=>exact (Kd.R_reads' HO_9.out).2.1);rintro e w125 ⟨rfl,hb⟩;replace HO_8:=rb_ HO_8 hb;replace HO_9:=rb_ HO_9 hb;replace HO_12:=rb_ HO_12 hb;replace HO_13:=rb_ HO_13 hb;replace Z20:=rb_ Z20 hb;replace HO53:=rb_ HO53 hb;replace HO56:=rb_ HO56 hb;replace HO59:=rb_ HO59 hb;replace HO62:=rb_ HO62 hb;replace BK1:=kb_ BK1 hb;replace BK19:=kb_ BK19 hb;replace HB:=a0_ (below_step hb_ hb);(try clear hb);(try clear hb2);(try clear hk);(try clear hi)))
                go_meet
                case rel=>exact ⟨_,(!t64),(by first | rfl | (simp;done) | (simp [*];done)),H',⟨by have:=HJ19.out;have:=HJ60.out;first | omega | exact Nat.le_refl _⟩,⟨by (try simp only [hl20000_60]);(with_reducible repeat (first | apply Kd.R_alloc | apply Kd.R_drewN | apply Kd.R_drew));exact Kd.R_mono HO_12.out (fun _ hk=>hk.1.1.1.2.2)⟩,⟨by (try simp only [hl20000_60]);(with_reducible repeat (first | apply Kd.R_alloc | apply Kd.R_drewN | apply Kd.R_drew));exact Kd.R_mono HO_13.out (fun _ hk=>hk.1.1.1.2.2)⟩,⟨by (try simp only [hl20000_60]);(with_reducible repeat (first | apply Kd.R_alloc | apply Kd.R_drewN | apply Kd.R_drew));exact Kd.R_mono Z20.out (fun _ hk=>trivial)⟩,⟨by (try simp only [hl20000_60]);(with_reducible repeat (first | refine blk_drewN ?_ _ | refine blk_drew ?_ | refine blk_alloc ?_ _));exact BK1.out⟩,⟨by (try simp only [hl20000_60]);(with_reducible repeat (first | refine blk_drewN ?_ _ | refine blk_drew ?_ | refine blk_alloc ?_ _));exact BK19.out⟩,⟨hb_⟩⟩
               ·replace c118:=Bool.eq_false_iff.mpr c118
                subst c118
                have H1 : (laws_FnExactSplitGroup.j2 kj60 t46 t48 t47 true) = some r:=by rw [if_neg (show ¬ (false = true) by decide)] at H;exact H
                clear H
                have H:=H1
                clear H1
                have H':=a0_ H
                clear H
                obtain ⟨Ao126,co126,eo126⟩:=Kd.R_slice HO59.out
                subst eo126
                obtain ⟨Ao127,co127,eo127⟩:=Kd.R_slice HO_8.out
                subst eo127
                go_wp2_with (first | ((with_reducible refine gate_callee (f:=17) rfl ?_);refine goesL_ (some 119) rfl rfl Try.func17 (by kernel_rfl) rfl #[.slice Ao126 t57.length co126,.slice Ao127 t10.length co127] rfl lm_ ?_;(with_reducible refine (laws_eqPartS.calls kj60 _ _ t57 _ _ t10 false _ ?side1 ?side2 ?side3 ?side4 A117.out).mono ?_);(case side1=>exact cc_ (Kd.R_reads' HO59.out).2.2);(case side2=>exact (Kd.R_reads' HO59.out).2.1);(case side3=>exact cc_ (Kd.R_reads' HO_8.out).2.2);(case side4=>exact (Kd.R_reads' HO_8.out).2.1);rintro e w128 ⟨rfl,hb⟩;refine ⟨_,rfl,?_⟩;replace HO_8:=rb_ HO_8 hb;replace HO_9:=rb_ HO_9 hb;replace HO_12:=rb_ HO_12 hb;replace HO_13:=rb_ HO_13 hb;replace Z20:=rb_ Z20 hb;replace HO53:=rb_ HO53 hb;replace HO56:=rb_ HO56 hb;replace HO59:=rb_ HO59 hb;replace HO62:=rb_ HO62 hb;replace BK1:=kb_ BK1 hb;replace BK19:=kb_ BK19 hb;replace HB:=a0_ (below_step hb_ hb);(try clear hb);(try clear hb2);(try clear hk);(try clear hi)))
                go_meet
                case rel=>exact ⟨_,(true),(by first | rfl | (simp;done) | (simp [*];done)),H',⟨by have:=HJ19.out;have:=HJ60.out;first | omega | exact Nat.le_refl _⟩,⟨by (try simp only [hl20000_60]);(with_reducible repeat (first | apply Kd.R_alloc | apply Kd.R_drewN | apply Kd.R_drew));exact Kd.R_mono HO_12.out (fun _ hk=>hk.1.1.1.2.2)⟩,⟨by (try simp only [hl20000_60]);(with_reducible repeat (first | apply Kd.R_alloc | apply Kd.R_drewN | apply Kd.R_drew));exact Kd.R_mono HO_13.out (fun _ hk=>hk.1.1.1.2.2)⟩,⟨by (try simp only [hl20000_60]);(with_reducible repeat (first | apply Kd.R_alloc | apply Kd.R_drewN | apply Kd.R_drew));exact Kd.R_mono Z20.out (fun _ hk=>trivial)⟩,⟨by (try simp only [hl20000_60]);(with_reducible repeat (first | refine blk_drewN ?_ _ | refine blk_drew ?_ | refine blk_alloc ?_ _));exact BK1.out⟩,⟨by (try simp only [hl20000_60]);(with_reducible repeat (first | refine blk_drewN ?_ _ | refine blk_drew ?_ | refine blk_alloc ?_ _));exact BK19.out⟩,⟨hb_⟩⟩
              case rest =>
               clear HC105
               try clear c1
               try clear c2
               try clear p2
               try clear c3
               try clear c4
               try clear c5
               try clear c5b0
               try clear c6
               try clear c7
               try clear c8
               try clear c9
               try clear c10
               try clear c10b0
               try clear c11
               try clear c13
               try clear c14
               try clear c16
               try clear c17
               try clear c20
               try clear c21
               try clear c22
               try clear c34
               try clear c39
               try clear c40
               try clear c41
               try clear c52
               try clear c55
               try clear c58
               try clear c69
               try clear c73
               try clear c73b0
               try clear c75
               try clear c86
               try clear c90
               try clear c90b0
               try clear c96
               try clear c96b0
               try clear c101
               try clear c101b0
               try clear c101b1
               try clear c110
               try clear c118
               try clear hcz111_0
               try clear hcz12_0
               try clear hcz22_0
               try clear hcz24_0
               try clear hcz30_0
               try clear hcz35_0
               try clear hcz37_0
               try clear hcz70_0
               try clear hcz7_0
               try clear hfz111_0
               try clear hfz12_0
               try clear hfz22_0
               try clear hfz24_0
               try clear hfz30_0
               try clear hfz35_0
               try clear hfz37_0
               try clear hfz70_0
               try clear hfz7_0
               try clear p2
               obtain ⟨kq,x126_104,rfl,HA,HJ104,HO_12,HO_13,Z20,BK1,BK19,HB⟩:=hcut
               have hl12_104:=(Kd.R_reads' HO_12.out).1
               rw [hl12_104] at HO_12
               (try simp only [hl12_104])
               (try simp only [hl12_104] at BK1)
               (try simp only [hl12_104] at BK19)
               (try simp only [hl12_104] at HO_13)
               (try simp only [hl12_104] at Z20)
               have hl13_104:=(Kd.R_reads' HO_13.out).1
               rw [hl13_104] at HO_13
               (try simp only [hl13_104])
               (try simp only [hl13_104] at BK1)
               (try simp only [hl13_104] at BK19)
               (try simp only [hl13_104] at HO_12)
               (try simp only [hl13_104] at Z20)
               cases kq with
               | zero=>exact absurd HA.out (by simp [laws_FnExactSplitGroup.j2])
               | succ kj104 =>
                have H:=HA.out
                clear HA
                simp only [laws_FnExactSplitGroup.j2] at H
                by_cases c129 : x126_104 = true
                ·subst c129
                 have H1 : (some false) = some r:=by rw [if_pos rfl] at H;exact H
                 clear H
                 have H:=H1
                 clear H1
                 obtain rfl:=Option.some.inj H
                 go_wp2
                 go_ret
                 exact ⟨by first | rfl | (simp [errW_none,errW_some] <;> rfl) | (simp [*,errW_none,errW_some] <;> rfl),hb_⟩
                ·replace c129:=Bool.eq_false_iff.mpr c129
                 subst c129
                 have H1 : ((laws_heldPartS.f kj104 t46 1).bind fun t65=>(if t65 < 0 then (some false) else ((laws_heldPartS.f kj104 t48 t65).bind fun t66=>(if t66 < 0 then (some false) else (if t66 = t47 then (some true) else (some false)))))) = some r:=by rw [if_neg (show ¬ (false = true) by decide)] at H;exact H
                 clear H
                 have H:=H1
                 clear H1
                 replace H:=Option.bind_eq_some_iff.mp H
                 obtain ⟨t65,A1300,H⟩:=H
                 replace H : (if t65 < 0 then (some false) else ((laws_heldPartS.f kj104 t48 t65).bind fun t66=>(if t66 < 0 then (some false) else (if t66 = t47 then (some true) else (some false))))) = some r:=H
                 have A130:=a0_ A1300
                 clear A1300
                 by_cases c131 : t65 < 0
                 ·rw [if_pos c131] at H
                  have c131b0 : decide (t65 < 0) = true:=decide_eq_true c131
                  clear c131
                  obtain rfl:=Option.some.inj H
                  go_wp2_with (first | ((with_reducible refine gate_callee (f:=22) rfl ?_);refine goesL_ (some 129) rfl rfl Try.func22 (by kernel_rfl) rfl #[.slice Ao106 t46.length co106,.int .i64 1] rfl lm_ ?_;(with_reducible refine (laws_heldPartS.calls kj104 _ _ t46 1 t65 _ ?side1 ?side2 A130.out).mono ?_);(case side1=>exact cc_ (Kd.R_reads' HO_12.out).2.2);(case side2=>exact (Kd.R_reads' HO_12.out).2.1);rintro e w' ⟨rfl,⟨nd,rfl⟩⟩;refine ⟨_,rfl,?_⟩))
                  go_ret
                  exact ⟨by first | rfl | (simp [errW_none,errW_some] <;> rfl) | (simp [*,errW_none,errW_some] <;> rfl),hb_⟩
                 ·rw [if_neg c131] at H
                  have c131b0 : decide (t65 < 0) = false:=decide_eq_false c131
                  clear c131
                  replace H:=Option.bind_eq_some_iff.mp H
                  obtain ⟨t66,A1320,H⟩:=H
                  replace H : (if t66 < 0 then (some false) else (if t66 = t47 then (some true) else (some false))) = some r:=H
                  have A132:=a0_ A1320
                  clear A1320
                  by_cases c133 : t66 < 0
                  ·rw [if_pos c133] at H
                   have c133b0 : decide (t66 < 0) = true:=decide_eq_true c133
                   clear c133
                   obtain rfl:=Option.some.inj H
                   go_wp2_with (first | ((with_reducible refine gate_callee (f:=22) rfl ?_);refine goesL_ (some 129) rfl rfl Try.func22 (by kernel_rfl) rfl #[.slice Ao106 t46.length co106,.int .i64 1] rfl lm_ ?_;(with_reducible refine (laws_heldPartS.calls kj104 _ _ t46 1 t65 _ ?side1 ?side2 A130.out).mono ?_);(case side1=>exact cc_ (Kd.R_reads' HO_12.out).2.2);(case side2=>exact (Kd.R_reads' HO_12.out).2.1);rintro e w' ⟨rfl,⟨nd,rfl⟩⟩;refine ⟨_,rfl,?_⟩) | ((with_reducible refine gate_callee (f:=22) rfl ?_);refine goesL_ (some 134) rfl rfl Try.func22 (by kernel_rfl) rfl #[.slice Ao108 t48.length co108,.int .i64 t65] rfl lm_ ?_;(with_reducible refine (laws_heldPartS.calls kj104 _ _ t48 t65 t66 _ ?side1 ?side2 A132.out).mono ?_);(case side1=>exact cc_ (Kd.R_reads' HO_13.out).2.2);(case side2=>exact (Kd.R_reads' HO_13.out).2.1);rintro e w' ⟨rfl,⟨nd,rfl⟩⟩;refine ⟨_,rfl,?_⟩))
                   go_ret
                   exact ⟨by first | rfl | (simp [errW_none,errW_some] <;> rfl) | (simp [*,errW_none,errW_some] <;> rfl),hb_⟩
                  ·rw [if_neg c133] at H
                   have c133b0 : decide (t66 < 0) = false:=decide_eq_false c133
                   clear c133
                   by_cases c134 : t66 = t47
                   ·rw [if_pos c134] at H
                    have c134b0 : (t66 == t47) = true:=beq_iff_eq.mpr c134
                    have c134b1 : (t66 != t47) = false:=bne_eq_false_iff_eq.mpr c134
                    clear c134
                    obtain rfl:=Option.some.inj H
                    go_wp2_with (first | ((with_reducible refine gate_callee (f:=22) rfl ?_);refine goesL_ (some 129) rfl rfl Try.func22 (by kernel_rfl) rfl #[.slice Ao106 t46.length co106,.int .i64 1] rfl lm_ ?_;(with_reducible refine (laws_heldPartS.calls kj104 _ _ t46 1 t65 _ ?side1 ?side2 A130.out).mono ?_);(case side1=>exact cc_ (Kd.R_reads' HO_12.out).2.2);(case side2=>exact (Kd.R_reads' HO_12.out).2.1);rintro e w' ⟨rfl,⟨nd,rfl⟩⟩;refine ⟨_,rfl,?_⟩) | ((with_reducible refine gate_callee (f:=22) rfl ?_);refine goesL_ (some 134) rfl rfl Try.func22 (by kernel_rfl) rfl #[.slice Ao108 t48.length co108,.int .i64 t65] rfl lm_ ?_;(with_reducible refine (laws_heldPartS.calls kj104 _ _ t48 t65 t66 _ ?side1 ?side2 A132.out).mono ?_);(case side1=>exact cc_ (Kd.R_reads' HO_13.out).2.2);(case side2=>exact (Kd.R_reads' HO_13.out).2.1);rintro e w' ⟨rfl,⟨nd,rfl⟩⟩;refine ⟨_,rfl,?_⟩))
                    go_ret
                    exact ⟨by first | rfl | (simp [errW_none,errW_some] <;> rfl) | (simp [*,errW_none,errW_some] <;> rfl),hb_⟩
                   ·rw [if_neg c134] at H
                    have c134b0 : (t66 == t47) = false:=beq_eq_false_iff_ne.mpr c134
                    have c134b1 : (t66 != t47) = true:=bne_iff_ne.mpr c134
                    obtain rfl:=Option.some.inj H
                    go_wp2_with (first | ((with_reducible refine gate_callee (f:=22) rfl ?_);refine goesL_ (some 129) rfl rfl Try.func22 (by kernel_rfl) rfl #[.slice Ao106 t46.length co106,.int .i64 1] rfl lm_ ?_;(with_reducible refine (laws_heldPartS.calls kj104 _ _ t46 1 t65 _ ?side1 ?side2 A130.out).mono ?_);(case side1=>exact cc_ (Kd.R_reads' HO_12.out).2.2);(case side2=>exact (Kd.R_reads' HO_12.out).2.1);rintro e w' ⟨rfl,⟨nd,rfl⟩⟩;refine ⟨_,rfl,?_⟩) | ((with_reducible refine gate_callee (f:=22) rfl ?_);refine goesL_ (some 134) rfl rfl Try.func22 (by kernel_rfl) rfl #[.slice Ao108 t48.length co108,.int .i64 t65] rfl lm_ ?_;(with_reducible refine (laws_heldPartS.calls kj104 _ _ t48 t65 t66 _ ?side1 ?side2 A132.out).mono ?_);(case side1=>exact cc_ (Kd.R_reads' HO_13.out).2.2);(case side2=>exact (Kd.R_reads' HO_13.out).2.1);rintro e w' ⟨rfl,⟨nd,rfl⟩⟩;refine ⟨_,rfl,?_⟩))
                    go_ret
                    exact ⟨by first | rfl | (simp [errW_none,errW_some] <;> rfl) | (simp [*,errW_none,errW_some] <;> rfl),hb_⟩
             ·rw [if_neg c101] at H
              have c101b0 : (t50 == t47) = false:=beq_eq_false_iff_ne.mpr c101
              have c101b1 : (t50 != t47) = true:=bne_iff_ne.mpr c101
              obtain rfl:=Option.some.inj H
              obtain ⟨Ao135,co135,eo135⟩:=Kd.R_slice HO_12.out
              subst eo135
              go_wp2_with (first | ((with_reducible refine gate_callee (f:=21) rfl ?_);refine goesL_ (some 91) rfl rfl Try.func21 (by kernel_rfl) rfl #[.slice Ao135 t23.length co135,.int .i64 1] rfl lm_ ?_;(with_reducible refine (laws_markPartS.calls kj60 (fun k_=>some k_ = (.slice Ao135 t23.length co135 : Value).ownBlock) (.slice Ao135 t23.length co135) t23 1 t45 t46 w _ ?side1 ?side2 A87.out).mono ?_);(case side1=>exact hb_);(case side2=>exact Kd.R_tight rfl HO_12.out);rintro e w136 ⟨rfl,hy0,hb,hkp⟩;refine ⟨_,rfl,?_⟩;have n0_:=a0_ (Kd.R_mono (ok':=fun k_=>some k_ ≠ (v14 : Value).ownBlock ∧ some k_ ≠ (.slice Ao135 t23.length co135 : Value).ownBlock ∧ some k_ ≠ (v27 : Value).ownBlock) (Kd.R_keptB (HO_8.out) hkp (fun k_ hk_ hs_=>(hk_.2.1) hs_)) (fun k_ hk_=>⟨hk_.1.1,hk_.1.2.1,hk_.1.2.2⟩));have n1_:=a0_ (Kd.R_mono (ok':=fun k_=>some k_ ≠ (v11 : Value).ownBlock ∧ some k_ ≠ (.slice Ao135 t23.length co135 : Value).ownBlock ∧ some k_ ≠ (v27 : Value).ownBlock) (Kd.R_keptB (HO_9.out) hkp (fun k_ hk_ hs_=>(hk_.2.1) hs_)) (fun k_ hk_=>⟨hk_.1.1,hk_.1.2.1,hk_.1.2.2⟩));have n2_:=a0_ (Kd.R_reok rfl hy0 (fun k_ e_=>HO_12.out.1 k_ e_));have n3_:=a0_ (Kd.R_mono (ok':=fun k_=>some k_ ≠ (v11 : Value).ownBlock ∧ some k_ ≠ (v14 : Value).ownBlock ∧ some k_ ≠ (.slice Ao135 t23.length co135 : Value).ownBlock) (Kd.R_keptB (HO_13.out) hkp (fun k_ hk_ hs_=>(hk_.2.2) hs_)) (fun k_ hk_=>⟨hk_.1.1,hk_.1.2.1,hk_.1.2.2⟩));have n4_:=a0_ (Kd.R_mono (ok':=fun k_=>True) (Kd.R_keptB ((Kd.R_apart' Z20.out (Kd.R_typed HO_12.out) (by decide))) hkp (fun k_ hk_ hs_=>(hk_.2) hs_)) (fun k_ hk_=>trivial));have n5_:=a0_ (blk_kept (bb_ BK1.out) hkp (fun hs_=>(fun e_=>(Kd.R_ne HO_12.out BK1.out (by decide)) e_) hs_));have n6_:=a0_ (blk_kept (bb_ BK19.out) hkp (fun hs_=>(fun e_=>(Kd.R_ne HO_12.out BK19.out (by decide)) e_) hs_));have n7_:=a0_ (hb);clear HO_8 HO_9;clear HO_12 HO_13;clear Z20 BK1;clear BK19 HB;have HO_8:=n0_;have HO_9:=n1_;have HO_12:=n2_;have HO_13:=n3_;have Z20:=n4_;have BK1:=n5_;have BK19:=n6_;have HB:=n7_;clear n0_ n1_ n2_ n3_ n4_ n5_ n6_ n7_;(try clear hb);(try clear hkp);(try clear hy0);obtain ⟨Ao137,co137,eo137⟩:=Kd.R_slice HO_13.out;subst eo137) | ((with_reducible refine gate_callee (f:=21) rfl ?_);refine goesL_ (some 94) rfl rfl Try.func21 (by kernel_rfl) rfl #[.slice Ao137 t26.length co137,.int .i64 t45] rfl lm_ ?_;(with_reducible refine (laws_markPartS.calls kj60 (fun k_=>some k_ = (.slice Ao137 t26.length co137 : Value).ownBlock) (.slice Ao137 t26.length co137) t26 t45 t47 t48 w _ ?side1 ?side2 A88.out).mono ?_);(case side1=>exact hb_);(case side2=>exact Kd.R_tight rfl HO_13.out);rintro e w138 ⟨rfl,hy0,hb,hkp⟩;refine ⟨_,rfl,?_⟩;have n0_:=a0_ (Kd.R_mono (ok':=fun k_=>some k_ ≠ (v14 : Value).ownBlock ∧ some k_ ≠ (.slice Ao135 t23.length co135 : Value).ownBlock ∧ some k_ ≠ (.slice Ao137 t26.length co137 : Value).ownBlock) (Kd.R_keptB (HO_8.out) hkp (fun k_ hk_ hs_=>(hk_.2.2) hs_)) (fun k_ hk_=>⟨hk_.1.1,hk_.1.2.1,hk_.1.2.2⟩));have n1_:=a0_ (Kd.R_mono (ok':=fun k_=>some k_ ≠ (v11 : Value).ownBlock ∧ some k_ ≠ (.slice Ao135 t23.length co135 : Value).ownBlock ∧ some k_ ≠ (.slice Ao137 t26.length co137 : Value).ownBlock) (Kd.R_keptB (HO_9.out) hkp (fun k_ hk_ hs_=>(hk_.2.2) hs_)) (fun k_ hk_=>⟨hk_.1.1,hk_.1.2.1,hk_.1.2.2⟩));have n2_:=a0_ (Kd.R_mono (ok':=fun k_=>some k_ ≠ (v11 : Value).ownBlock ∧ some k_ ≠ (v14 : Value).ownBlock ∧ some k_ ≠ (.slice Ao137 t26.length co137 : Value).ownBlock) (Kd.R_keptB (HO_12.out) hkp (fun k_ hk_ hs_=>(hk_.2.2) hs_)) (fun k_ hk_=>⟨hk_.1.1,hk_.1.2.1,hk_.1.2.2⟩));have n3_:=a0_ (Kd.R_reok rfl hy0 (fun k_ e_=>HO_13.out.1 k_ e_));have n4_:=a0_ (Kd.R_mono (ok':=fun k_=>True) (Kd.R_keptB ((Kd.R_apart' Z20.out (Kd.R_typed HO_13.out) (by decide))) hkp (fun k_ hk_ hs_=>(hk_.2) hs_)) (fun k_ hk_=>trivial));have n5_:=a0_ (blk_kept (bb_ BK1.out) hkp (fun hs_=>(fun e_=>(Kd.R_ne HO_13.out BK1.out (by decide)) e_) hs_));have n6_:=a0_ (blk_kept (bb_ BK19.out) hkp (fun hs_=>(fun e_=>(Kd.R_ne HO_13.out BK19.out (by decide)) e_) hs_));have n7_:=a0_ (hb);clear HO_8 HO_9;clear HO_12 HO_13;clear Z20 BK1;clear BK19 HB;have HO_8:=n0_;have HO_9:=n1_;have HO_12:=n2_;have HO_13:=n3_;have Z20:=n4_;have BK1:=n5_;have BK19:=n6_;have HB:=n7_;clear n0_ n1_ n2_ n3_ n4_ n5_ n6_ n7_;(try clear hb);(try clear hkp);(try clear hy0)) | ((with_reducible refine gate_callee (f:=22) rfl ?_);refine goesL_ (some 97) rfl rfl Try.func22 (by kernel_rfl) rfl #[.slice Ao135 t46.length co135,.int .i64 1] rfl (by (try simp only [List.map_toArray,List.map_cons,List.map_nil]);first | done | (rw [show t46.length = t23.length from (Kd.R_reads' HO_12.out).1.symm] <;> rfl) | rfl | (simp only [List.length_drop,List.length_take];rfl)) ?_;(with_reducible refine (laws_heldPartS.calls kj60 _ _ t46 1 t49 _ ?side1 ?side2 A89.out).mono ?_);(case side1=>exact cc_ (Kd.R_reads' HO_12.out).2.2);(case side2=>rw [show t46.length = t23.length from (Kd.R_reads' HO_12.out).1.symm];exact (Kd.R_reads' HO_12.out).2.1);rintro e w' ⟨rfl,⟨nd,rfl⟩⟩;refine ⟨_,rfl,?_⟩) | ((with_reducible refine gate_callee (f:=22) rfl ?_);refine goesL_ (some 102) rfl rfl Try.func22 (by kernel_rfl) rfl #[.slice Ao137 t48.length co137,.int .i64 t49] rfl (by (try simp only [List.map_toArray,List.map_cons,List.map_nil]);first | done | (rw [show t48.length = t26.length from (Kd.R_reads' HO_13.out).1.symm] <;> rfl) | rfl | (simp only [List.length_drop,List.length_take];rfl)) ?_;(with_reducible refine (laws_heldPartS.calls kj60 _ _ t48 t49 t50 _ ?side1 ?side2 A95.out).mono ?_);(case side1=>exact cc_ (Kd.R_reads' HO_13.out).2.2);(case side2=>rw [show t48.length = t26.length from (Kd.R_reads' HO_13.out).1.symm];exact (Kd.R_reads' HO_13.out).2.1);rintro e w' ⟨rfl,⟨nd,rfl⟩⟩;refine ⟨_,rfl,?_⟩))
              go_ret
              exact ⟨by first | rfl | (simp [errW_none,errW_some] <;> rfl) | (simp [*,errW_none,errW_some] <;> rfl),hb_⟩
       ·replace c58:=Bool.eq_false_iff.mpr c58
        subst c58
        have H1 : (some false) = some r:=by rw [if_neg (show ¬ (false = true) by decide)] at H;exact H
        clear H
        have H:=H1
        clear H1
        obtain rfl:=Option.some.inj H
        try go_wp2
        have n0_:=a0_ (Kd.R_drew HO_8.out)
        have n1_:=a0_ (Kd.R_drew HO_9.out)
        have n2_:=a0_ (Kd.R_drew HO_11.out)
        have n3_:=a0_ (Kd.R_drew HO_12.out)
        have n4_:=a0_ (Kd.R_drew HO_13.out)
        have n5_:=a0_ (Kd.R_drew Z20.out)
        have n6_:=a0_ (blk_drew BK1.out)
        have n7_:=a0_ (blk_drew BK19.out)
        have n8_:=a0_ (below_drew1 HB.out)
        clear HO_8
        clear HO_9
        clear HO_11
        clear HO_12
        clear HO_13
        clear Z20
        clear BK1
        clear BK19
        clear HB
        have HO_8:=n0_
        have HO_9:=n1_
        have HO_11:=n2_
        have HO_12:=n3_
        have HO_13:=n4_
        have Z20:=n5_
        have BK1:=n6_
        have BK19:=n7_
        have HB:=n8_
        clear n0_ n1_ n2_ n3_ n4_ n5_ n6_ n7_ n8_
        refine start_ (n:=5) (S:=fun w'=>w'.cell? ⟨gb19,0,none⟩ = some (.slice Ao33 t16.length co33) ∧ w'.cell? ⟨gb1,0,none⟩ = some (.slice A0_0 l0_0.length c0_0)) (ds:=[]) #[false,false,false,false,false] (by kernel_rfl) rfl rfl ⟨(blk_cell BK19.out 0).trans rfl,(blk_cell BK1.out 0).trans rfl⟩ (fun hHeld=>?_)
        generalize wc.drew = w139 at HO_8 HO_9 HO_11 HO_12 HO_13 Z20 BK1 BK19 HB hHeld ⊢
        refine take_ (i:=0) (N:=some 59) (v:=?_) (a':=?_) #[true,false,false,false,false] rfl rfl (by kernel_rfl) (fun _ _ _ h=>h) (Or.inl ⟨by rfl,?_⟩) hHeld ?_ ?_
        rotate_left
        ·rintro w' ⟨s0,s1⟩
         go_simp
         with_reducible rfl
        rotate_left
        ·simp only [Act.put,s1_,s2_,s3_,i64_w,i32_w]
         rfl
        refine take_ (i:=1) (N:=some 60) (v:=?_) (a':=?_) #[true,true,false,false,false] rfl rfl (by kernel_rfl) (fun _ _ _ h=>h) (Or.inl ⟨by rfl,?_⟩) hHeld ?_ ?_
        rotate_left
        ·rintro w' ⟨s0,s1⟩
         go_simp
         with_reducible rfl
        rotate_left
        ·simp only [Act.put,s1_,s2_,s3_,i64_w,i32_w]
         rfl
        refine one_ (i:=2) (N:=some 61) #[true,true,true,false,false] rfl rfl (by kernel_rfl) (by decide) (fun K hK=>?_)
        refine goes_ Try.func13 (by kernel_rfl) rfl #[.agg #[.slice A0_0 l0_0.length c0_0]] (by rfl) rfl rfl lm_ ?_
        with_reducible refine (laws_toTree.calls kj19 _ _ l0_0 t31 _ ?side1 ?side2 A53.out).mono ?_
        (case side1=>exact cc_ (Kd.C_below HR0_0.out HB.out))
        (case side2=>exact HC0_0.out)
        rintro e w140 ⟨v32,rfl,ho0,hb⟩
        refine ⟨_,rfl,?_⟩
        have n0_:=rb_ HO_8 hb
        have n1_:=rb_ HO_9 hb
        have n2_:=rb_ HO_11 hb
        have n3_:=rb_ HO_12 hb
        have n4_:=rb_ HO_13 hb
        have n5_:=a0_ (Kd.R_elder' (rr_ Z20.out) (Kd.R_base ho0) hb)
        have n6_:=a0_ (Kd.R_lower (Kd.R_new' ho0 (Kd.R_lt (rr_ Z20.out))) (below_size hb_))
        have n7_:=kb_ BK1 hb
        have n8_:=kb_ BK19 hb
        have n9_:=a0_ (below_step hb_ hb)
        clear HO_8
        clear HO_9
        clear HO_11
        clear HO_12
        clear HO_13
        clear Z20
        clear BK1
        clear BK19
        clear HB
        have HO_8:=n0_
        have HO_9:=n1_
        have HO_11:=n2_
        have HO_12:=n3_
        have HO_13:=n4_
        have Z20:=n5_
        have HO33:=n6_
        have BK1:=n7_
        have BK19:=n8_
        have HB:=n9_
        clear n0_ n1_ n2_ n3_ n4_ n5_ n6_ n7_ n8_ n9_
        (try clear hb)
        (try clear hb2)
        (try clear hk)
        (try clear hi)
        (try clear ho0)
        obtain ⟨Ao141,co141,eo141⟩:=Kd.R_slice HO33.out
        (first | subst eo141 | (injection eo141 with f1_ f2_ f3_;have f4_:=f1_.symm;have f5_:=f3_.symm;clear f1_ f2_ f3_;subst f4_;subst f5_))
        refine hK.out _ _ ⟨(blk_cell BK19.out 0).trans rfl,(blk_cell BK1.out 0).trans rfl⟩ (fun hHeld=>?_)
        clear hK K
        refine norm_ (a':=?_) ?_ ?_
        rotate_left
        ·show Act.put _ (some 61) _ = _
         simp only [Act.put,s1_,s2_,s3_,i64_w,i32_w]
         rfl
        refine one_ (i:=3) (N:=some 62) #[true,true,true,true,false] rfl rfl (by kernel_rfl) (by decide) (fun K hK=>?_)
        refine goes_ Try.func16 (by kernel_rfl) rfl #[.agg #[.slice Ao33 t16.length co33],.agg #[.slice Ao141 t31.length co141]] (by rfl) rfl rfl lm_ ?_
        with_reducible refine (laws_eqTree.calls kj19 _ _ t16 _ _ t31 true _ ?side1 ?side2 ?side3 ?side4 A54.out).mono ?_
        (case side1=>exact cc_ (Kd.R_reads' Z20.out).2.2)
        (case side2=>exact (Kd.R_reads' Z20.out).2.1)
        (case side3=>exact cc_ (Kd.R_reads' HO33.out).2.2)
        (case side4=>exact (Kd.R_reads' HO33.out).2.1)
        rintro e w142 ⟨rfl,hb⟩
        refine ⟨_,rfl,?_⟩
        have n0_:=rb_ HO_8 hb
        have n1_:=rb_ HO_9 hb
        have n2_:=rb_ HO_11 hb
        have n3_:=rb_ HO_12 hb
        have n4_:=rb_ HO_13 hb
        have n5_:=rb_ Z20 hb
        have n6_:=rb_ HO33 hb
        have n7_:=kb_ BK1 hb
        have n8_:=kb_ BK19 hb
        have n9_:=a0_ (below_step hb_ hb)
        clear HO_8
        clear HO_9
        clear HO_11
        clear HO_12
        clear HO_13
        clear Z20
        clear HO33
        clear BK1
        clear BK19
        clear HB
        have HO_8:=n0_
        have HO_9:=n1_
        have HO_11:=n2_
        have HO_12:=n3_
        have HO_13:=n4_
        have Z20:=n5_
        have HO33:=n6_
        have BK1:=n7_
        have BK19:=n8_
        have HB:=n9_
        clear n0_ n1_ n2_ n3_ n4_ n5_ n6_ n7_ n8_ n9_
        (try clear hb)
        (try clear hb2)
        (try clear hk)
        (try clear hi)
        refine hK.out _ _ ⟨(blk_cell BK19.out 0).trans rfl,(blk_cell BK1.out 0).trans rfl⟩ (fun hHeld=>?_)
        clear hK K
        refine norm_ (a':=?_) ?_ ?_
        rotate_left
        ·show Act.put _ (some 62) _ = _
         simp only [Act.put,s1_,s2_,s3_,i64_w,i32_w]
         rfl
        refine pure_ (i:=4) (N:=some 63) (v:=?_) (a':=?_) #[true,true,true,true,true] rfl rfl (by kernel_rfl) (fun _ _ _ h=>h) (Or.inl ⟨by rfl,?_⟩) ?_ ?_
        rotate_left
        ·intro w'
         go_simp
         with_reducible rfl
        rotate_left
        ·simp only [Act.put,s1_,s2_,s3_,i64_w,i32_w]
         rfl
        refine done_ (by kernel_rfl) ?_
        try go_wp2_with (first | ((with_reducible refine gate_callee (f:=14) rfl ?_);refine goesL_ (some 66) rfl rfl Try.func14 (by kernel_rfl) rfl #[.slice A1 l1.length c1] rfl lm_ ?_;(with_reducible refine (laws_toPartS.calls kj19 _ _ l1 t35 _ ?side1 ?side2 A56.out).mono ?_);(case side1=>exact cc_ (Kd.C_below HR1.out HB.out));(case side2=>exact HC1.out);rintro e w143 ⟨v36,rfl,ho0,hb⟩;refine ⟨_,rfl,?_⟩;have n0_:=a0_ (Kd.R_elder' (rr_ HO_8.out) (Kd.R_base ho0) hb);have n1_:=a0_ (Kd.R_elder' (rr_ HO_9.out) (Kd.R_base ho0) hb);have n2_:=a0_ (Kd.R_elder' (rr_ HO_11.out) (Kd.R_base ho0) hb);have n3_:=a0_ (Kd.R_elder' (rr_ HO_12.out) (Kd.R_base ho0) hb);have n4_:=a0_ (Kd.R_elder' (rr_ HO_13.out) (Kd.R_base ho0) hb);have n5_:=rb_ Z20 hb;have n6_:=rb_ HO33 hb;have n7_:=a0_ (Kd.R_lower (Kd.R_new' (Kd.R_new' (Kd.R_new' (Kd.R_new' (Kd.R_new' ho0 (Kd.R_lt (rr_ HO_8.out))) (Kd.R_lt (rr_ HO_9.out))) (Kd.R_lt (rr_ HO_11.out))) (Kd.R_lt (rr_ HO_12.out))) (Kd.R_lt (rr_ HO_13.out))) (below_size hb_));have n8_:=kb_ BK1 hb;have n9_:=kb_ BK19 hb;have n10_:=a0_ (below_step hb_ hb);clear HO_8 HO_9;clear HO_11 HO_12;clear HO_13 Z20;clear HO33 BK1;clear BK19 HB;have HO_8:=n0_;have HO_9:=n1_;have HO_11:=n2_;have HO_12:=n3_;have HO_13:=n4_;have Z20:=n5_;have HO33:=n6_;have HO37:=n7_;have BK1:=n8_;have BK19:=n9_;have HB:=n10_;clear n0_ n1_ n2_ n3_ n4_ n5_ n6_ n7_ n8_ n9_ n10_;(try clear hb);(try clear ho0);obtain ⟨Ao144,co144,eo144⟩:=Kd.R_slice HO37.out;subst eo144) | ((with_reducible refine gate_callee (f:=17) rfl ?_);refine goesL_ (some 67) rfl rfl Try.func17 (by kernel_rfl) rfl #[.slice Ao38 t20.length co38,.slice Ao144 t35.length co144] rfl lm_ ?_;(with_reducible refine (laws_eqPartS.calls kj19 _ _ t20 _ _ t35 false _ ?side1 ?side2 ?side3 ?side4 A57.out).mono ?_);(case side1=>exact cc_ (Kd.R_reads' HO_11.out).2.2);(case side2=>exact (Kd.R_reads' HO_11.out).2.1);(case side3=>exact cc_ (Kd.R_reads' HO37.out).2.2);(case side4=>exact (Kd.R_reads' HO37.out).2.1);rintro e w145 ⟨rfl,hb⟩;refine ⟨_,rfl,?_⟩;replace HO_8:=rb_ HO_8 hb;replace HO_9:=rb_ HO_9 hb;replace HO_11:=rb_ HO_11 hb;replace HO_12:=rb_ HO_12 hb;replace HO_13:=rb_ HO_13 hb;replace Z20:=rb_ Z20 hb;replace HO33:=rb_ HO33 hb;replace HO37:=rb_ HO37 hb;replace BK1:=kb_ BK1 hb;replace BK19:=kb_ BK19 hb;replace HB:=a0_ (below_step hb_ hb);(try clear hb);(try clear hb2);(try clear hk);(try clear hi)))
        go_ret
        exact ⟨by first | rfl | (simp [errW_none,errW_some] <;> rfl) | (simp [*,errW_none,errW_some] <;> rfl),hb_⟩
      ·replace c55:=Bool.eq_false_iff.mpr c55
       subst c55
       have H1 : (some false) = some r:=by rw [if_neg (show ¬ (false = true) by decide)] at H;exact H
       clear H
       have H:=H1
       clear H1
       obtain rfl:=Option.some.inj H
       try go_wp2
       have n0_:=a0_ (Kd.R_drew HO_8.out)
       have n1_:=a0_ (Kd.R_drew HO_9.out)
       have n2_:=a0_ (Kd.R_drew HO_11.out)
       have n3_:=a0_ (Kd.R_drew HO_12.out)
       have n4_:=a0_ (Kd.R_drew HO_13.out)
       have n5_:=a0_ (Kd.R_drew Z20.out)
       have n6_:=a0_ (blk_drew BK1.out)
       have n7_:=a0_ (blk_drew BK19.out)
       have n8_:=a0_ (below_drew1 HB.out)
       clear HO_8
       clear HO_9
       clear HO_11
       clear HO_12
       clear HO_13
       clear Z20
       clear BK1
       clear BK19
       clear HB
       have HO_8:=n0_
       have HO_9:=n1_
       have HO_11:=n2_
       have HO_12:=n3_
       have HO_13:=n4_
       have Z20:=n5_
       have BK1:=n6_
       have BK19:=n7_
       have HB:=n8_
       clear n0_ n1_ n2_ n3_ n4_ n5_ n6_ n7_ n8_
       refine start_ (n:=5) (S:=fun w'=>w'.cell? ⟨gb19,0,none⟩ = some (.slice Ao33 t16.length co33) ∧ w'.cell? ⟨gb1,0,none⟩ = some (.slice A0_0 l0_0.length c0_0)) (ds:=[]) #[false,false,false,false,false] (by kernel_rfl) rfl rfl ⟨(blk_cell BK19.out 0).trans rfl,(blk_cell BK1.out 0).trans rfl⟩ (fun hHeld=>?_)
       generalize wc.drew = w146 at HO_8 HO_9 HO_11 HO_12 HO_13 Z20 BK1 BK19 HB hHeld ⊢
       refine take_ (i:=0) (N:=some 59) (v:=?_) (a':=?_) #[true,false,false,false,false] rfl rfl (by kernel_rfl) (fun _ _ _ h=>h) (Or.inl ⟨by rfl,?_⟩) hHeld ?_ ?_
       rotate_left
       ·rintro w' ⟨s0,s1⟩
        go_simp
        with_reducible rfl
       rotate_left
       ·simp only [Act.put,s1_,s2_,s3_,i64_w,i32_w]
        rfl
       refine take_ (i:=1) (N:=some 60) (v:=?_) (a':=?_) #[true,true,false,false,false] rfl rfl (by kernel_rfl) (fun _ _ _ h=>h) (Or.inl ⟨by rfl,?_⟩) hHeld ?_ ?_
       rotate_left
       ·rintro w' ⟨s0,s1⟩
        go_simp
        with_reducible rfl
       rotate_left
       ·simp only [Act.put,s1_,s2_,s3_,i64_w,i32_w]
        rfl
       refine one_ (i:=2) (N:=some 61) #[true,true,true,false,false] rfl rfl (by kernel_rfl) (by decide) (fun K hK=>?_)
       refine goes_ Try.func13 (by kernel_rfl) rfl #[.agg #[.slice A0_0 l0_0.length c0_0]] (by rfl) rfl rfl lm_ ?_
       with_reducible refine (laws_toTree.calls kj19 _ _ l0_0 t31 _ ?side1 ?side2 A53.out).mono ?_
       (case side1=>exact cc_ (Kd.C_below HR0_0.out HB.out))
       (case side2=>exact HC0_0.out)
       rintro e w147 ⟨v32,rfl,ho0,hb⟩
       refine ⟨_,rfl,?_⟩
       have n0_:=rb_ HO_8 hb
       have n1_:=rb_ HO_9 hb
       have n2_:=rb_ HO_11 hb
       have n3_:=rb_ HO_12 hb
       have n4_:=rb_ HO_13 hb
       have n5_:=a0_ (Kd.R_elder' (rr_ Z20.out) (Kd.R_base ho0) hb)
       have n6_:=a0_ (Kd.R_lower (Kd.R_new' ho0 (Kd.R_lt (rr_ Z20.out))) (below_size hb_))
       have n7_:=kb_ BK1 hb
       have n8_:=kb_ BK19 hb
       have n9_:=a0_ (below_step hb_ hb)
       clear HO_8
       clear HO_9
       clear HO_11
       clear HO_12
       clear HO_13
       clear Z20
       clear BK1
       clear BK19
       clear HB
       have HO_8:=n0_
       have HO_9:=n1_
       have HO_11:=n2_
       have HO_12:=n3_
       have HO_13:=n4_
       have Z20:=n5_
       have HO33:=n6_
       have BK1:=n7_
       have BK19:=n8_
       have HB:=n9_
       clear n0_ n1_ n2_ n3_ n4_ n5_ n6_ n7_ n8_ n9_
       (try clear hb)
       (try clear hb2)
       (try clear hk)
       (try clear hi)
       (try clear ho0)
       obtain ⟨Ao148,co148,eo148⟩:=Kd.R_slice HO33.out
       (first | subst eo148 | (injection eo148 with f1_ f2_ f3_;have f4_:=f1_.symm;have f5_:=f3_.symm;clear f1_ f2_ f3_;subst f4_;subst f5_))
       refine hK.out _ _ ⟨(blk_cell BK19.out 0).trans rfl,(blk_cell BK1.out 0).trans rfl⟩ (fun hHeld=>?_)
       clear hK K
       refine norm_ (a':=?_) ?_ ?_
       rotate_left
       ·show Act.put _ (some 61) _ = _
        simp only [Act.put,s1_,s2_,s3_,i64_w,i32_w]
        rfl
       refine one_ (i:=3) (N:=some 62) #[true,true,true,true,false] rfl rfl (by kernel_rfl) (by decide) (fun K hK=>?_)
       refine goes_ Try.func16 (by kernel_rfl) rfl #[.agg #[.slice Ao33 t16.length co33],.agg #[.slice Ao148 t31.length co148]] (by rfl) rfl rfl lm_ ?_
       with_reducible refine (laws_eqTree.calls kj19 _ _ t16 _ _ t31 false _ ?side1 ?side2 ?side3 ?side4 A54.out).mono ?_
       (case side1=>exact cc_ (Kd.R_reads' Z20.out).2.2)
       (case side2=>exact (Kd.R_reads' Z20.out).2.1)
       (case side3=>exact cc_ (Kd.R_reads' HO33.out).2.2)
       (case side4=>exact (Kd.R_reads' HO33.out).2.1)
       rintro e w149 ⟨rfl,hb⟩
       refine ⟨_,rfl,?_⟩
       have n0_:=rb_ HO_8 hb
       have n1_:=rb_ HO_9 hb
       have n2_:=rb_ HO_11 hb
       have n3_:=rb_ HO_12 hb
       have n4_:=rb_ HO_13 hb
       have n5_:=rb_ Z20 hb
       have n6_:=rb_ HO33 hb
       have n7_:=kb_ BK1 hb
       have n8_:=kb_ BK19 hb
       have n9_:=a0_ (below_step hb_ hb)
       clear HO_8
       clear HO_9
       clear HO_11
       clear HO_12
       clear HO_13
       clear Z20
       clear HO33
       clear BK1
       clear BK19
       clear HB
       have HO_8:=n0_
       have HO_9:=n1_
       have HO_11:=n2_
       have HO_12:=n3_
       have HO_13:=n4_
       have Z20:=n5_
       have HO33:=n6_
       have BK1:=n7_
       have BK19:=n8_
       have HB:=n9_
       clear n0_ n1_ n2_ n3_ n4_ n5_ n6_ n7_ n8_ n9_
       (try clear hb)
       (try clear hb2)
       (try clear hk)
       (try clear hi)
       refine hK.out _ _ ⟨(blk_cell BK19.out 0).trans rfl,(blk_cell BK1.out 0).trans rfl⟩ (fun hHeld=>?_)
       clear hK K
       refine norm_ (a':=?_) ?_ ?_
       rotate_left
       ·show Act.put _ (some 62) _ = _
        simp only [Act.put,s1_,s2_,s3_,i64_w,i32_w]
        rfl
       refine pure_ (i:=4) (N:=some 63) (v:=?_) (a':=?_) #[true,true,true,true,true] rfl rfl (by kernel_rfl) (fun _ _ _ h=>h) (Or.inl ⟨by rfl,?_⟩) ?_ ?_
       rotate_left
       ·intro w'
        go_simp
        with_reducible rfl
       rotate_left
       ·simp only [Act.put,s1_,s2_,s3_,i64_w,i32_w]
        rfl
       refine done_ (by kernel_rfl) ?_
       try go_wp2
       go_ret
       exact ⟨by first | rfl | (simp [errW_none,errW_some] <;> rfl) | (simp [*,errW_none,errW_some] <;> rfl),hb_⟩
end Go.Proofs.Ytdepjpjgecdcjaa.P
namespace Go.Proofs.Ytdepjpjgecdcjaa.Pure
open Go.RowKit Go.Proofs.Ytdepjpjgecdcjaa.P
set_option linter.unusedVariables false
theorem FnExactSplitGroup (l0_0 : List S85) (l1 : List S65) (a2 : Int) (G0_0 : (l0_0.length ≤ maxLen ∧ ∀ x ∈ l0_0,(x.f0.size ≤ maxLen ∧ (Lit.int .i64 x.f1).wf = true))) (g1 : (l1.length ≤ maxLen ∧ ∀ x ∈ l1,((Lit.int .i64 x.f0).wf = true ∧ True ∧ (Lit.int .i64 x.f2).wf = true ∧ (Lit.int .i64 x.f3).wf = true))) (w2 : (Lit.int .i64 a2).wf = true) : ∃ k,laws_FnExactSplitGroup.f k l0_0 l1 a2 = some true:=by
 have hmax : maxLen = 9223372036854775807:=by decide
 rw [hmax] at G0_0 g1
 refine Ev.out (F:=fun k=>laws_FnExactSplitGroup.f k l0_0 l1 a2) ?_
 unfold laws_FnExactSplitGroup.f
 obtain ⟨v0,hv0,hg0⟩:=laws_szTree_ev l0_0 1048576 (by omega) (by omega) G0_0.1 (fun x hx=>(G0_0.2 x hx).1)
 refine Ev.bind hv0 ?_
 by_cases hn0 : v0 < 0
 ·exact Ev.pos hn0 (Ev.const rfl)
 refine Ev.neg hn0 ?_
 obtain ⟨hva0,hl0,hs⟩:=hg0 (by omega)
 obtain ⟨v1,hv1,hg1⟩:=laws_szPartS_ev l1 v0 (by omega) (by omega) g1.1
 refine Ev.bind hv1 ?_
 by_cases hn1 : v1 < 0
 ·exact Ev.pos hn1 (Ev.const rfl)
 refine Ev.neg hn1 ?_
 obtain ⟨hva1,hl1⟩:=hg1 (by omega)
 have hT0:=laws_toTree_ev l0_0 (by omega)
 have hm0 : (l0_0.map toC).length ≤ 1048576:=by rw [List.length_map];omega
 have hT1:=laws_toPartS_ev l1 (by omega)
 have hm1 : (l1.map toPart).length ≤ 1048576:=by rw [List.length_map];omega
 have hsm:=smT_of hs
 have hS : Ev (fun k=>spec_SplitGroup.f k (l0_0.map toC) (l1.map toPart) a2) (splitP (l0_0.map toC) (l1.map toPart) a2):=spec_SplitGroup_ev (l0_0.map toC) (l1.map toPart) a2 hsm (by omega) (by omega)
 have hG : Ev (fun k=>impl_SplitGroup.f (l0_0.map toC) (l1.map toPart) a2) (splitP (l0_0.map toC) (l1.map toPart) a2):=Ev.const (impl_SplitGroup_ev (l0_0.map toC) (l1.map toPart) a2 hsm (by omega))
 have hrl:=splitP_len (l0_0.map toC) (l1.map toPart) a2
 generalize splitP (l0_0.map toC) (l1.map toPart) a2 = r at hS hG hrl
 obtain ⟨r0,r1⟩:=r
 simp only at hrl
 have hEr0:=laws_eqPartS_ev r0 (by omega)
 have hEr1:=laws_eqPartS_ev r1 (by omega)
 obtain ⟨l',hM0⟩:=laws_markTree_ev (l0_0.map toC) (1) (by omega) (by omega)
 have hM1:=laws_markPartS_ev (l1.map toPart) (1 + 2 * (l0_0.map toC).length) (by omega) (by omega)
 have hm9r0:=laws_markPartS_ev r0 (1) (by omega) (by omega)
 have hhr0:=laws_heldPartS_ev (1) r0.length (by omega) (by omega)
 have hm9r1:=laws_markPartS_ev r1 (1 + 4 * r0.length) (by omega) (by omega)
 have hhr1:=laws_heldPartS_ev (1 + 4 * r0.length) r1.length (by omega) (by omega)
 refine Ev.bind hT0 (Ev.bind hT1 (Ev.bind hS (Ev.bind hT0 (Ev.bind hT1 (Ev.bind hG (Ev.bind hEr0 (Ev.pos rfl (Ev.bind hEr1 ?_))))))))
 refine Ev.succ ?_
 simp only [laws_FnExactSplitGroup.j0]
 refine Ev.neg (by simp) (Ev.bind hT0 (Ev.bind (laws_eqTree_ev _ (by omega)) (Ev.pos rfl (Ev.bind hT1 (Ev.bind (laws_eqPartS_ev _ (by omega)) (Ev.pos rfl (Ev.bind hM0 (Ev.bind hM1 (Ev.neg (by show ¬ (_ < (0 : Int));omega) (Ev.bind hEr0 (Ev.pos rfl (Ev.bind hEr1 ?_))))))))))))
 refine Ev.succ ?_
 simp only [laws_FnExactSplitGroup.j1]
 refine Ev.neg (by simp) (Ev.bind hm9r0 (Ev.bind hm9r1 (Ev.bind hhr0 (Ev.neg (by omega) (Ev.bind hhr1 (Ev.neg (by omega) (Ev.pos rfl (Ev.bind hT0 (Ev.bind hT1 (Ev.bind hG (Ev.bind hEr0 (Ev.pos rfl (Ev.bind hEr1 ?_)))))))))))))
 refine Ev.succ ?_
 simp only [laws_FnExactSplitGroup.j2]
 exact Ev.neg (by simp) (Ev.bind hhr0 (Ev.neg (by omega) (Ev.bind hhr1 (Ev.neg (by omega) (Ev.pos rfl (Ev.const rfl))))))
end Go.Proofs.Ytdepjpjgecdcjaa.Pure
