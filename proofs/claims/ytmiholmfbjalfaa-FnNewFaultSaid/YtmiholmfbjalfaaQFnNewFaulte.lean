/- Texts under the proof of FnNewFault: helper words, the functions' contracts and the plain laws. No condition. -/
import Derived.Test.YtmiholmfbjalfaaQFnNewFaulta
import Derived.Test.YtmiholmfbjalfaaQFnNewFaultd
import Derived.Test.YtmiholmfbjalfaaQFnNewFaultb
namespace Go.Proofs.Ytmiholmfbjalfaa.P
open Go.RowKit Go.Proofs.YtmiholmfbjalfaaW.PrintWords Go.Proofs.YtmiholmfbjalfaaW.PrintLast Go.Proofs.YtmiholmfbjalfaaW.PrintMore
attribute [local go_sem] max2_int min2_int max_two min_two max_three min_three max_four min_four
set_option linter.unusedVariables false
set_option linter.unusedSimpArgs false
def spec_hasClass.f (l0_0 : List (S87)) (a1 : Int) : Option (Bool):=(spec_inRange.f a1 0 (wrap64 ((l0_0.length : Int) - 1))).bind fun t2=>(some t2)
set_option maxHeartbeats 8000000 in
set_option maxRecDepth 100000 in
theorem spec_hasClass.calls (A0_0 : Option Addr) (c0_0 : Nat) (l0_0 : List (S87)) (a1 : Int) (r : Bool) (w : World) (hr0_0 : Kd.C k87 w A0_0 l0_0.length l0_0) (hc0_0 : l0_0.length ≤ c0_0) (h : spec_hasClass.f l0_0 a1 = some r) :
  Calls Try.prog 70 #[.agg #[.slice A0_0 l0_0.length c0_0],.int .i64 a1] w fun e w'=>e = .returned (.bool r) ∧ Below w.heap.size w w':=by
 have hu25:=Try.underlying25
 have HR0_0:=a0_ hr0_0
 have HC0_0:=a0_ hc0_0
 clear hr0_0 hc0_0
 have HB:=a0_ (Below.refl w.heap.size w)
 have H : ((spec_inRange.f a1 0 (wrap64 ((l0_0.length : Int) - 1))).bind fun t2=>(some t2)) = some r:=h
 clear h
 replace H:=Option.bind_eq_some_iff.mp H
 obtain ⟨t2,A30,H⟩:=H
 replace H : (some t2) = some r:=H
 have A3:=a0_ A30
 clear A30
 obtain rfl:=Option.some.inj H
 go_enter Try.func70,Try.ntmps70
 go_wp2_with (first | ((with_reducible refine gate_dst (N:=2) rfl ?_);refine box_event ?hg (N:=2) ?hd (cs:=#[.slice A0_0 l0_0.length c0_0]) (t:=25) ?hr ?_;(case hd=>rfl);(case hg=>rfl);(case hr=>first | (go_simp;done) | (go_simp;rfl));intro gb1 hg w4 hbox hb;have BK1:=a0_ (hbox);have GW1:=a0_ ((by rw [hg];exact (below_size hbw_) : w.heap.size ≤ gb1));have GE1:=a0_ ((by rw [hg];exact (below_size hbw_) : w.heap.size ≤ gb1));replace HB:=a0_ (below_step hbw_ hb);clear hb hbox hg;have hcz5_0 : w4.cell? ⟨gb1,0,none⟩ = some (.slice A0_0 l0_0.length c0_0):=(blk_cell BK1.out 0).trans rfl;have hfz5_0:=blk_frozen BK1.out 0) | ((with_reducible refine gate_callee (f:=71) rfl ?_);refine goesL_ (some 10) rfl rfl Try.func71 (by kernel_rfl) rfl #[.int .i64 a1,.int .i64 0,.int .i64 (wrap64 ((l0_0.length : Int) - 1))] rfl lm_ ?_;(with_reducible refine (spec_inRange.calls a1 0 (wrap64 ((l0_0.length : Int) - 1)) t2 _ A3.out).mono ?_);rintro e w' ⟨rfl,⟨nd,rfl⟩⟩;refine ⟨_,rfl,?_⟩))
 go_ret
 exact ⟨by first | rfl | (simp [errW_none,errW_some] <;> rfl) | (simp [*,errW_none,errW_some] <;> rfl),hbw_⟩
theorem spec_hasClass_ev (t : List Cls) (a : Int) (hl : t.length ≤ 9223372036854775807) : spec_hasClass.f t a = some (hasC t a):=by
 unfold spec_hasClass.f spec_inRange.f hasC
 rw [wrap_pred (by omega) (by omega)]
 by_cases h0 : 0 ≤ a
 ·rw [if_pos h0]
  simp only [Option.bind_some,Option.some.injEq,decide_eq_true h0,Bool.true_and]
  by_cases h1 : a < (t.length : Int)
  ·rw [decide_eq_true h1,decide_eq_true (by omega)]
  ·rw [decide_eq_false h1,decide_eq_false (by omega)]
 ·rw [if_neg h0]
  simp [decide_eq_false h0]
end Go.Proofs.Ytmiholmfbjalfaa.P
namespace Go.Proofs.Ytmiholmfbjalfaa.P
open Go.RowKit Go.Proofs.YtmiholmfbjalfaaW.PrintWords Go.Proofs.YtmiholmfbjalfaaW.PrintLast Go.Proofs.YtmiholmfbjalfaaW.PrintMore
attribute [local go_sem] max2_int min2_int max_two min_two max_three min_three max_four min_four
set_option linter.unusedVariables false
set_option linter.unusedSimpArgs false
def spec_validLinks.f (l0_0 : List (S43)) (a1 : Int) : Option (Bool):=if 0 ≤ a1 then (if a1 < (l0_0.length : Int) then ((spec_inRange.f ((rd_T43 l0_0 a1).f2) (-1) (wrap64 ((l0_0.length : Int) - 1))).bind fun t4=>(if t4 = true then ((spec_inRange.f ((rd_T43 l0_0 a1).f3) (-1) (wrap64 ((l0_0.length : Int) - 1))).bind fun t5=>(if t5 = true then (if ((rd_T43 l0_0 a1).f2) = a1 then (some false) else (some (((rd_T43 l0_0 a1).f3) != a1))) else (some false))) else (some false))) else (none)) else (none)
set_option maxHeartbeats 8000000 in
set_option maxRecDepth 100000 in
theorem spec_validLinks.calls (A0_0 : Option Addr) (c0_0 : Nat) (l0_0 : List (S43)) (a1 : Int) (r : Bool) (w : World) (hr0_0 : Kd.C k43 w A0_0 l0_0.length l0_0) (hc0_0 : l0_0.length ≤ c0_0) (h : spec_validLinks.f l0_0 a1 = some r) :
  Calls Try.prog 72 #[.agg #[.slice A0_0 l0_0.length c0_0],.int .i64 a1] w fun e w'=>e = .returned (.bool r) ∧ Below w.heap.size w w':=by
 have hu28:=Try.underlying28
 have hu43:=Try.underlying43
 have HR0_0:=a0_ hr0_0
 have HC0_0:=a0_ hc0_0
 clear hr0_0 hc0_0
 have HB:=a0_ (Below.refl w.heap.size w)
 have H : (if 0 ≤ a1 then (if a1 < (l0_0.length : Int) then ((spec_inRange.f ((rd_T43 l0_0 a1).f2) (-1) (wrap64 ((l0_0.length : Int) - 1))).bind fun t4=>(if t4 = true then ((spec_inRange.f ((rd_T43 l0_0 a1).f3) (-1) (wrap64 ((l0_0.length : Int) - 1))).bind fun t5=>(if t5 = true then (if ((rd_T43 l0_0 a1).f2) = a1 then (some false) else (some (((rd_T43 l0_0 a1).f3) != a1))) else (some false))) else (some false))) else (none)) else (none)) = some r:=h
 clear h
 by_cases c3 : 0 ≤ a1
 ·rw [if_pos c3] at H
  have c3b0 : decide (0 ≤ a1) = true:=decide_eq_true c3
  clear c3
  by_cases c4 : a1 < (l0_0.length : Int)
  ·rw [if_pos c4] at H
   have c4b0 : decide (a1 < (l0_0.length : Int)) = true:=decide_eq_true c4
   clear c4
   replace H:=Option.bind_eq_some_iff.mp H
   obtain ⟨t4,A50,H⟩:=H
   try dsimp only at H
   have A5:=a0_ A50
   clear A50
   by_cases c6 : t4 = true
   ·subst c6
    have H1 : ((spec_inRange.f ((rd_T43 l0_0 a1).f3) (-1) (wrap64 ((l0_0.length : Int) - 1))).bind fun t5=>(if t5 = true then (if ((rd_T43 l0_0 a1).f2) = a1 then (some false) else (some (((rd_T43 l0_0 a1).f3) != a1))) else (some false))) = some r:=by rw [if_pos rfl] at H;exact H
    clear H
    have H:=H1
    clear H1
    replace H:=Option.bind_eq_some_iff.mp H
    obtain ⟨t5,A70,H⟩:=H
    try dsimp only at H
    have A7:=a0_ A70
    clear A70
    by_cases c8 : t5 = true
    ·subst c8
     have H1 : (if ((rd_T43 l0_0 a1).f2) = a1 then (some false) else (some (((rd_T43 l0_0 a1).f3) != a1))) = some r:=by rw [if_pos rfl] at H;exact H
     clear H
     have H:=H1
     clear H1
     by_cases c9 : ((rd_T43 l0_0 a1).f2) = a1
     ·rw [if_pos c9] at H
      have c9b0 : (((rd_T43 l0_0 a1).f2) == a1) = true:=beq_iff_eq.mpr c9
      have c9b1 : (((rd_T43 l0_0 a1).f2) != a1) = false:=bne_eq_false_iff_eq.mpr c9
      clear c9
      obtain rfl:=Option.some.inj H
      go_enter Try.func72,Try.ntmps72
      go_wp2_with (first | ((with_reducible refine gate_dst (N:=2) rfl ?_);refine box_event ?hg (N:=2) ?hd (cs:=#[.slice A0_0 l0_0.length c0_0]) (t:=28) ?hr ?_;(case hd=>rfl);(case hg=>rfl);(case hr=>first | (go_simp;done) | (go_simp;rfl));intro gb1 hg w10 hbox hb;have BK1:=a0_ (hbox);have GW1:=a0_ ((by rw [hg];exact (below_size hbw_) : w.heap.size ≤ gb1));have GE1:=a0_ ((by rw [hg];exact (below_size hbw_) : w.heap.size ≤ gb1));replace HB:=a0_ (below_step hbw_ hb);clear hb hbox hg;have hcz11_0 : w10.cell? ⟨gb1,0,none⟩ = some (.slice A0_0 l0_0.length c0_0):=(blk_cell BK1.out 0).trans rfl;have hfz11_0:=blk_frozen BK1.out 0;have p2 : 0 ≤ (a1 : Int):=of_decide_eq_true (by first | (with_reducible assumption) | assumption);have q2 : a1 < (l0_0.length : Int):=of_decide_eq_true (by first | (with_reducible assumption) | assumption);obtain ⟨ad2,e2,hx2_0,hx2_1,hx2_2,hx2_3,hx2_4⟩:=at_T43 HR0_0.out a1 p2 q2;cases e2;replace hx2_0:=(HB.out.cell (World.block_lt_of_cell? w _ hx2_0)).trans hx2_0;replace hx2_1:=(HB.out.cell (World.block_lt_of_cell? w _ hx2_1)).trans hx2_1;replace hx2_2:=(HB.out.cell (World.block_lt_of_cell? w _ hx2_2)).trans hx2_2;replace hx2_3:=(HB.out.cell (World.block_lt_of_cell? w _ hx2_3)).trans hx2_3;replace hx2_4:=(HB.out.cell (World.block_lt_of_cell? w _ hx2_4)).trans hx2_4;replace p2:=eq_true p2;replace q2:=eq_true q2) | ((with_reducible refine gate_dst (N:=6) rfl ?_);refine box_event ?hg (N:=6) ?hd (cs:=#[.int .i64 0,.int .i64 0,.int .i64 0,.int .i64 0,.bool false]) (t:=43) ?hr ?_;(case hd=>rfl);(case hg=>rfl);(case hr=>first | (go_simp;done) | (go_simp;rfl));intro gb3 hg w12 hbox hb;have n0_:=kb_ BK1 hb;have n1_:=a0_ (below_step hbw_ hb);have n2_:=a0_ (hbox);have n3_:=a0_ ((by rw [hg];exact (below_size hbw_) : w.heap.size ≤ gb3));have n4_:=a0_ ((by rw [hg];exact (below_size hbw_) : w.heap.size ≤ gb3));have n5_:=a0_ ((by rw [hg];exact Nat.ne_of_lt (blk_lt (bb_ BK1.out)) : gb1 ≠ gb3));have n6_:=a0_ ((by rw [hg];exact Nat.ne_of_gt (blk_lt (bb_ BK1.out)) : gb3 ≠ gb1));clear BK1 HB;have BK1:=n0_;have HB:=n1_;have BK3:=n2_;have GW3:=n3_;have GE3:=n4_;have NB1_3:=n5_;have NB3_1:=n6_;clear n0_ n1_ n2_ n3_ n4_ n5_ n6_;clear hb hbox hg;have hnb13:=NB3_1.out;have hnc13:=NB1_3.out;have hcz14_0 : w12.cell? ⟨gb3,0,none⟩ = some (.int .i64 0):=(blk_cell BK3.out 0).trans rfl;have hcz14_1 : w12.cell? ⟨gb3,1,none⟩ = some (.int .i64 0):=(blk_cell BK3.out 1).trans rfl;have hcz14_2 : w12.cell? ⟨gb3,2,none⟩ = some (.int .i64 0):=(blk_cell BK3.out 2).trans rfl;have hcz14_3 : w12.cell? ⟨gb3,3,none⟩ = some (.int .i64 0):=(blk_cell BK3.out 3).trans rfl;have hcz14_4 : w12.cell? ⟨gb3,4,none⟩ = some (.bool false):=(blk_cell BK3.out 4).trans rfl;have hfz14_0:=blk_frozen BK3.out 0;have hfz14_1:=blk_frozen BK3.out 1;have hfz14_2:=blk_frozen BK3.out 2;have hfz14_3:=blk_frozen BK3.out 3;have hfz14_4:=blk_frozen BK3.out 4) | ((with_reducible refine gate_callee (f:=71) rfl ?_);refine goesL_ (some 19) rfl rfl Try.func71 (by kernel_rfl) rfl #[.int .i64 ((rd_T43 l0_0 a1).f2),.int .i64 (-1),.int .i64 (wrap64 ((l0_0.length : Int) - 1))] rfl lm_ ?_;(with_reducible refine (spec_inRange.calls ((rd_T43 l0_0 a1).f2) (-1) (wrap64 ((l0_0.length : Int) - 1)) true _ A5.out).mono ?_);rintro e w' ⟨rfl,⟨nd,rfl⟩⟩;refine ⟨_,rfl,?_⟩) | (go_at_call 71;(with_reducible refine (spec_inRange.calls ((rd_T43 l0_0 a1).f3) (-1) (wrap64 ((l0_0.length : Int) - 1)) true _ A7.out).mono ?_);rintro e w' ⟨rfl,⟨nd,rfl⟩⟩))
      go_ret
      exact ⟨by first | rfl | (simp [errW_none,errW_some] <;> rfl) | (simp [*,errW_none,errW_some] <;> rfl),hbw_⟩
     ·rw [if_neg c9] at H
      have c9b0 : (((rd_T43 l0_0 a1).f2) == a1) = false:=beq_eq_false_iff_ne.mpr c9
      have c9b1 : (((rd_T43 l0_0 a1).f2) != a1) = true:=bne_iff_ne.mpr c9
      obtain rfl:=Option.some.inj H
      go_enter Try.func72,Try.ntmps72
      go_wp2_with (first | ((with_reducible refine gate_dst (N:=2) rfl ?_);refine box_event ?hg (N:=2) ?hd (cs:=#[.slice A0_0 l0_0.length c0_0]) (t:=28) ?hr ?_;(case hd=>rfl);(case hg=>rfl);(case hr=>first | (go_simp;done) | (go_simp;rfl));intro gb1 hg w15 hbox hb;have BK1:=a0_ (hbox);have GW1:=a0_ ((by rw [hg];exact (below_size hbw_) : w.heap.size ≤ gb1));have GE1:=a0_ ((by rw [hg];exact (below_size hbw_) : w.heap.size ≤ gb1));replace HB:=a0_ (below_step hbw_ hb);clear hb hbox hg;have hcz16_0 : w15.cell? ⟨gb1,0,none⟩ = some (.slice A0_0 l0_0.length c0_0):=(blk_cell BK1.out 0).trans rfl;have hfz16_0:=blk_frozen BK1.out 0;have p2 : 0 ≤ (a1 : Int):=of_decide_eq_true (by first | (with_reducible assumption) | assumption);have q2 : a1 < (l0_0.length : Int):=of_decide_eq_true (by first | (with_reducible assumption) | assumption);obtain ⟨ad2,e2,hx2_0,hx2_1,hx2_2,hx2_3,hx2_4⟩:=at_T43 HR0_0.out a1 p2 q2;cases e2;replace hx2_0:=(HB.out.cell (World.block_lt_of_cell? w _ hx2_0)).trans hx2_0;replace hx2_1:=(HB.out.cell (World.block_lt_of_cell? w _ hx2_1)).trans hx2_1;replace hx2_2:=(HB.out.cell (World.block_lt_of_cell? w _ hx2_2)).trans hx2_2;replace hx2_3:=(HB.out.cell (World.block_lt_of_cell? w _ hx2_3)).trans hx2_3;replace hx2_4:=(HB.out.cell (World.block_lt_of_cell? w _ hx2_4)).trans hx2_4;replace p2:=eq_true p2;replace q2:=eq_true q2) | ((with_reducible refine gate_dst (N:=6) rfl ?_);refine box_event ?hg (N:=6) ?hd (cs:=#[.int .i64 0,.int .i64 0,.int .i64 0,.int .i64 0,.bool false]) (t:=43) ?hr ?_;(case hd=>rfl);(case hg=>rfl);(case hr=>first | (go_simp;done) | (go_simp;rfl));intro gb3 hg w17 hbox hb;have n0_:=kb_ BK1 hb;have n1_:=a0_ (below_step hbw_ hb);have n2_:=a0_ (hbox);have n3_:=a0_ ((by rw [hg];exact (below_size hbw_) : w.heap.size ≤ gb3));have n4_:=a0_ ((by rw [hg];exact (below_size hbw_) : w.heap.size ≤ gb3));have n5_:=a0_ ((by rw [hg];exact Nat.ne_of_lt (blk_lt (bb_ BK1.out)) : gb1 ≠ gb3));have n6_:=a0_ ((by rw [hg];exact Nat.ne_of_gt (blk_lt (bb_ BK1.out)) : gb3 ≠ gb1));clear BK1 HB;have BK1:=n0_;have HB:=n1_;have BK3:=n2_;have GW3:=n3_;have GE3:=n4_;have NB1_3:=n5_;have NB3_1:=n6_;clear n0_ n1_ n2_ n3_ n4_ n5_ n6_;clear hb hbox hg;have hnb18:=NB3_1.out;have hnc18:=NB1_3.out;have hcz19_0 : w17.cell? ⟨gb3,0,none⟩ = some (.int .i64 0):=(blk_cell BK3.out 0).trans rfl;have hcz19_1 : w17.cell? ⟨gb3,1,none⟩ = some (.int .i64 0):=(blk_cell BK3.out 1).trans rfl;have hcz19_2 : w17.cell? ⟨gb3,2,none⟩ = some (.int .i64 0):=(blk_cell BK3.out 2).trans rfl;have hcz19_3 : w17.cell? ⟨gb3,3,none⟩ = some (.int .i64 0):=(blk_cell BK3.out 3).trans rfl;have hcz19_4 : w17.cell? ⟨gb3,4,none⟩ = some (.bool false):=(blk_cell BK3.out 4).trans rfl;have hfz19_0:=blk_frozen BK3.out 0;have hfz19_1:=blk_frozen BK3.out 1;have hfz19_2:=blk_frozen BK3.out 2;have hfz19_3:=blk_frozen BK3.out 3;have hfz19_4:=blk_frozen BK3.out 4) | ((with_reducible refine gate_callee (f:=71) rfl ?_);refine goesL_ (some 19) rfl rfl Try.func71 (by kernel_rfl) rfl #[.int .i64 ((rd_T43 l0_0 a1).f2),.int .i64 (-1),.int .i64 (wrap64 ((l0_0.length : Int) - 1))] rfl lm_ ?_;(with_reducible refine (spec_inRange.calls ((rd_T43 l0_0 a1).f2) (-1) (wrap64 ((l0_0.length : Int) - 1)) true _ A5.out).mono ?_);rintro e w' ⟨rfl,⟨nd,rfl⟩⟩;refine ⟨_,rfl,?_⟩) | (go_at_call 71;(with_reducible refine (spec_inRange.calls ((rd_T43 l0_0 a1).f3) (-1) (wrap64 ((l0_0.length : Int) - 1)) true _ A7.out).mono ?_);rintro e w' ⟨rfl,⟨nd,rfl⟩⟩))
      go_ret
      exact ⟨by first | rfl | (simp [errW_none,errW_some] <;> rfl) | (simp [*,errW_none,errW_some] <;> rfl),hbw_⟩
    ·replace c8:=Bool.eq_false_iff.mpr c8
     subst c8
     have H1 : (some false) = some r:=by rw [if_neg (show ¬ (false = true) by decide)] at H;exact H
     clear H
     have H:=H1
     clear H1
     obtain rfl:=Option.some.inj H
     go_enter Try.func72,Try.ntmps72
     go_wp2_with (first | ((with_reducible refine gate_dst (N:=2) rfl ?_);refine box_event ?hg (N:=2) ?hd (cs:=#[.slice A0_0 l0_0.length c0_0]) (t:=28) ?hr ?_;(case hd=>rfl);(case hg=>rfl);(case hr=>first | (go_simp;done) | (go_simp;rfl));intro gb1 hg w20 hbox hb;have BK1:=a0_ (hbox);have GW1:=a0_ ((by rw [hg];exact (below_size hbw_) : w.heap.size ≤ gb1));have GE1:=a0_ ((by rw [hg];exact (below_size hbw_) : w.heap.size ≤ gb1));replace HB:=a0_ (below_step hbw_ hb);clear hb hbox hg;have hcz21_0 : w20.cell? ⟨gb1,0,none⟩ = some (.slice A0_0 l0_0.length c0_0):=(blk_cell BK1.out 0).trans rfl;have hfz21_0:=blk_frozen BK1.out 0;have p2 : 0 ≤ (a1 : Int):=of_decide_eq_true (by first | (with_reducible assumption) | assumption);have q2 : a1 < (l0_0.length : Int):=of_decide_eq_true (by first | (with_reducible assumption) | assumption);obtain ⟨ad2,e2,hx2_0,hx2_1,hx2_2,hx2_3,hx2_4⟩:=at_T43 HR0_0.out a1 p2 q2;cases e2;replace hx2_0:=(HB.out.cell (World.block_lt_of_cell? w _ hx2_0)).trans hx2_0;replace hx2_1:=(HB.out.cell (World.block_lt_of_cell? w _ hx2_1)).trans hx2_1;replace hx2_2:=(HB.out.cell (World.block_lt_of_cell? w _ hx2_2)).trans hx2_2;replace hx2_3:=(HB.out.cell (World.block_lt_of_cell? w _ hx2_3)).trans hx2_3;replace hx2_4:=(HB.out.cell (World.block_lt_of_cell? w _ hx2_4)).trans hx2_4;replace p2:=eq_true p2;replace q2:=eq_true q2) | ((with_reducible refine gate_dst (N:=6) rfl ?_);refine box_event ?hg (N:=6) ?hd (cs:=#[.int .i64 0,.int .i64 0,.int .i64 0,.int .i64 0,.bool false]) (t:=43) ?hr ?_;(case hd=>rfl);(case hg=>rfl);(case hr=>first | (go_simp;done) | (go_simp;rfl));intro gb3 hg w22 hbox hb;have n0_:=kb_ BK1 hb;have n1_:=a0_ (below_step hbw_ hb);have n2_:=a0_ (hbox);have n3_:=a0_ ((by rw [hg];exact (below_size hbw_) : w.heap.size ≤ gb3));have n4_:=a0_ ((by rw [hg];exact (below_size hbw_) : w.heap.size ≤ gb3));have n5_:=a0_ ((by rw [hg];exact Nat.ne_of_lt (blk_lt (bb_ BK1.out)) : gb1 ≠ gb3));have n6_:=a0_ ((by rw [hg];exact Nat.ne_of_gt (blk_lt (bb_ BK1.out)) : gb3 ≠ gb1));clear BK1 HB;have BK1:=n0_;have HB:=n1_;have BK3:=n2_;have GW3:=n3_;have GE3:=n4_;have NB1_3:=n5_;have NB3_1:=n6_;clear n0_ n1_ n2_ n3_ n4_ n5_ n6_;clear hb hbox hg;have hnb23:=NB3_1.out;have hnc23:=NB1_3.out;have hcz24_0 : w22.cell? ⟨gb3,0,none⟩ = some (.int .i64 0):=(blk_cell BK3.out 0).trans rfl;have hcz24_1 : w22.cell? ⟨gb3,1,none⟩ = some (.int .i64 0):=(blk_cell BK3.out 1).trans rfl;have hcz24_2 : w22.cell? ⟨gb3,2,none⟩ = some (.int .i64 0):=(blk_cell BK3.out 2).trans rfl;have hcz24_3 : w22.cell? ⟨gb3,3,none⟩ = some (.int .i64 0):=(blk_cell BK3.out 3).trans rfl;have hcz24_4 : w22.cell? ⟨gb3,4,none⟩ = some (.bool false):=(blk_cell BK3.out 4).trans rfl;have hfz24_0:=blk_frozen BK3.out 0;have hfz24_1:=blk_frozen BK3.out 1;have hfz24_2:=blk_frozen BK3.out 2;have hfz24_3:=blk_frozen BK3.out 3;have hfz24_4:=blk_frozen BK3.out 4) | ((with_reducible refine gate_callee (f:=71) rfl ?_);refine goesL_ (some 19) rfl rfl Try.func71 (by kernel_rfl) rfl #[.int .i64 ((rd_T43 l0_0 a1).f2),.int .i64 (-1),.int .i64 (wrap64 ((l0_0.length : Int) - 1))] rfl lm_ ?_;(with_reducible refine (spec_inRange.calls ((rd_T43 l0_0 a1).f2) (-1) (wrap64 ((l0_0.length : Int) - 1)) true _ A5.out).mono ?_);rintro e w' ⟨rfl,⟨nd,rfl⟩⟩;refine ⟨_,rfl,?_⟩) | (go_at_call 71;(with_reducible refine (spec_inRange.calls ((rd_T43 l0_0 a1).f3) (-1) (wrap64 ((l0_0.length : Int) - 1)) false _ A7.out).mono ?_);rintro e w' ⟨rfl,⟨nd,rfl⟩⟩))
     go_ret
     exact ⟨by first | rfl | (simp [errW_none,errW_some] <;> rfl) | (simp [*,errW_none,errW_some] <;> rfl),hbw_⟩
   ·replace c6:=Bool.eq_false_iff.mpr c6
    subst c6
    have H1 : (some false) = some r:=by rw [if_neg (show ¬ (false = true) by decide)] at H;exact H
    clear H
    have H:=H1
    clear H1
    obtain rfl:=Option.some.inj H
    go_enter Try.func72,Try.ntmps72
    go_wp2_with (first | ((with_reducible refine gate_dst (N:=2) rfl ?_);refine box_event ?hg (N:=2) ?hd (cs:=#[.slice A0_0 l0_0.length c0_0]) (t:=28) ?hr ?_;(case hd=>rfl);(case hg=>rfl);(case hr=>first | (go_simp;done) | (go_simp;rfl));intro gb1 hg w25 hbox hb;have BK1:=a0_ (hbox);have GW1:=a0_ ((by rw [hg];exact (below_size hbw_) : w.heap.size ≤ gb1));have GE1:=a0_ ((by rw [hg];exact (below_size hbw_) : w.heap.size ≤ gb1));replace HB:=a0_ (below_step hbw_ hb);clear hb hbox hg;have hcz26_0 : w25.cell? ⟨gb1,0,none⟩ = some (.slice A0_0 l0_0.length c0_0):=(blk_cell BK1.out 0).trans rfl;have hfz26_0:=blk_frozen BK1.out 0;have p2 : 0 ≤ (a1 : Int):=of_decide_eq_true (by first | (with_reducible assumption) | assumption);have q2 : a1 < (l0_0.length : Int):=of_decide_eq_true (by first | (with_reducible assumption) | assumption);obtain ⟨ad2,e2,hx2_0,hx2_1,hx2_2,hx2_3,hx2_4⟩:=at_T43 HR0_0.out a1 p2 q2;cases e2;replace hx2_0:=(HB.out.cell (World.block_lt_of_cell? w _ hx2_0)).trans hx2_0;replace hx2_1:=(HB.out.cell (World.block_lt_of_cell? w _ hx2_1)).trans hx2_1;replace hx2_2:=(HB.out.cell (World.block_lt_of_cell? w _ hx2_2)).trans hx2_2;replace hx2_3:=(HB.out.cell (World.block_lt_of_cell? w _ hx2_3)).trans hx2_3;replace hx2_4:=(HB.out.cell (World.block_lt_of_cell? w _ hx2_4)).trans hx2_4;replace p2:=eq_true p2;replace q2:=eq_true q2) | ((with_reducible refine gate_dst (N:=6) rfl ?_);refine box_event ?hg (N:=6) ?hd (cs:=#[.int .i64 0,.int .i64 0,.int .i64 0,.int .i64 0,.bool false]) (t:=43) ?hr ?_;(case hd=>rfl);(case hg=>rfl);(case hr=>first | (go_simp;done) | (go_simp;rfl));intro gb3 hg w27 hbox hb;have n0_:=kb_ BK1 hb;have n1_:=a0_ (below_step hbw_ hb);have n2_:=a0_ (hbox);have n3_:=a0_ ((by rw [hg];exact (below_size hbw_) : w.heap.size ≤ gb3));have n4_:=a0_ ((by rw [hg];exact (below_size hbw_) : w.heap.size ≤ gb3));have n5_:=a0_ ((by rw [hg];exact Nat.ne_of_lt (blk_lt (bb_ BK1.out)) : gb1 ≠ gb3));have n6_:=a0_ ((by rw [hg];exact Nat.ne_of_gt (blk_lt (bb_ BK1.out)) : gb3 ≠ gb1));clear BK1 HB;have BK1:=n0_;have HB:=n1_;have BK3:=n2_;have GW3:=n3_;have GE3:=n4_;have NB1_3:=n5_;have NB3_1:=n6_;clear n0_ n1_ n2_ n3_ n4_ n5_ n6_;clear hb hbox hg;have hnb28:=NB3_1.out;have hnc28:=NB1_3.out;have hcz29_0 : w27.cell? ⟨gb3,0,none⟩ = some (.int .i64 0):=(blk_cell BK3.out 0).trans rfl;have hcz29_1 : w27.cell? ⟨gb3,1,none⟩ = some (.int .i64 0):=(blk_cell BK3.out 1).trans rfl;have hcz29_2 : w27.cell? ⟨gb3,2,none⟩ = some (.int .i64 0):=(blk_cell BK3.out 2).trans rfl;have hcz29_3 : w27.cell? ⟨gb3,3,none⟩ = some (.int .i64 0):=(blk_cell BK3.out 3).trans rfl;have hcz29_4 : w27.cell? ⟨gb3,4,none⟩ = some (.bool false):=(blk_cell BK3.out 4).trans rfl;have hfz29_0:=blk_frozen BK3.out 0;have hfz29_1:=blk_frozen BK3.out 1;have hfz29_2:=blk_frozen BK3.out 2;have hfz29_3:=blk_frozen BK3.out 3;have hfz29_4:=blk_frozen BK3.out 4) | ((with_reducible refine gate_callee (f:=71) rfl ?_);refine goesL_ (some 19) rfl rfl Try.func71 (by kernel_rfl) rfl #[.int .i64 ((rd_T43 l0_0 a1).f2),.int .i64 (-1),.int .i64 (wrap64 ((l0_0.length : Int) - 1))] rfl lm_ ?_;(with_reducible refine (spec_inRange.calls ((rd_T43 l0_0 a1).f2) (-1) (wrap64 ((l0_0.length : Int) - 1)) false _ A5.out).mono ?_);rintro e w' ⟨rfl,⟨nd,rfl⟩⟩;refine ⟨_,rfl,?_⟩))
    go_ret
    exact ⟨by first | rfl | (simp [errW_none,errW_some] <;> rfl) | (simp [*,errW_none,errW_some] <;> rfl),hbw_⟩
  ·rw [if_neg c4] at H
   exact absurd H (by simp)
 ·rw [if_neg c3] at H
  exact absurd H (by simp)
theorem spec_validLinks_ev (h : List Fau) (i : Nat) (hi : i < h.length) (hl : h.length ≤ 9223372036854775807) : spec_validLinks.f h (i : Int) = some (lnkB h (i : Int) (h.getD i z43).f2 && lnkB h (i : Int) (h.getD i z43).f3):=by
 unfold spec_validLinks.f
 have hrd : rd_T43 h (i : Int) = h.getD i z43:=by simp [rd_T43]
 rw [if_pos (by omega),if_pos (by omega),hrd,wrap_in (by omega) (by omega),spec_inRange_ev,spec_inRange_ev]
 generalize (h.getD i z43).f2 = a
 generalize (h.getD i z43).f3 = b
 have key : ∀ u : Int,lnkB h (i : Int) u = ((decide (-1 ≤ u) && decide (u ≤ (h.length : Int) - 1)) && (u != (i : Int))):=by
  intro u
  unfold lnkB hasF
  rw [Bool.eq_iff_iff]
  simp only [Bool.or_eq_true,Bool.and_eq_true,beq_iff_eq,decide_eq_true_eq,bne_iff_ne]
  omega
 rw [key a,key b]
 generalize (decide (-1 ≤ a) && decide (a ≤ (h.length : Int) - 1)) = p
 generalize (decide (-1 ≤ b) && decide (b ≤ (h.length : Int) - 1)) = q
 simp only [Option.bind_some]
 by_cases ha : a = (i : Int)
 ·rw [if_pos ha,show (a != (i : Int)) = false from bne_eq_false_iff_eq.2 ha]
  cases p <;> cases q <;> rfl
 ·rw [if_neg ha,show (a != (i : Int)) = true from bne_iff_ne.2 ha]
  cases p <;> cases q <;> simp
end Go.Proofs.Ytmiholmfbjalfaa.P
namespace Go.Proofs.Ytmiholmfbjalfaa.P
open Go.RowKit Go.Proofs.YtmiholmfbjalfaaW.PrintWords Go.Proofs.YtmiholmfbjalfaaW.PrintLast Go.Proofs.YtmiholmfbjalfaaW.PrintMore
attribute [local go_sem] max2_int min2_int max_two min_two max_three min_three max_four min_four
set_option linter.unusedVariables false
set_option linter.unusedSimpArgs false
def spec_hasInt.l0 : Nat → List Int → Int → Int → Option (Bool)
 | 0,_,_,_=>none
 | k + 1,x0,x1,x5=>if x5 < (x0.length : Int) then (if 0 ≤ x5 then (if (rd x0 x5) = x1 then (some true) else (spec_hasInt.l0 k x0 x1 (wrap64 (x5 + 1)))) else (none)) else (some false)
def spec_hasInt.f (k : Nat) (l0 : List Int) (a1 : Int) : Option (Bool):=spec_hasInt.l0 k l0 a1 0
theorem spec_hasInt.mono_l : ∀ k,(∀ y0 y1 y2,LeO (spec_hasInt.l0 k y0 y1 y2) (spec_hasInt.l0 (k + 1) y0 y1 y2))
 | 0=>fun _ _ _ r h=>by simp [spec_hasInt.l0] at h
 | k + 1=>by
  have ih0:=spec_hasInt.mono_l k
  ·intro y0 y1 y2
   unfold spec_hasInt.l0
   repeat' first
   | (with_reducible exact ih0 _ _ _)
   | (with_reducible exact LeO.refl _)
   | (with_reducible exact LeO.none _)
   | (with_reducible refine LeO.ite ?_ ?_)
   | (with_reducible refine LeO.bind ?_ (fun _=>?_))
   | exact ih0 _ _ _
   | exact LeO.none _
   | refine LeO.ite ?_ ?_
   | refine LeO.bind ?_ (fun _=>?_)
theorem spec_hasInt.mono : ∀ a0 a1 k,LeO (spec_hasInt.f k a0 a1) (spec_hasInt.f (k + 1) a0 a1):=by
 intro a0 a1 k
 have ih0:=spec_hasInt.mono_l k
 unfold spec_hasInt.f
 repeat' first
   | (with_reducible exact ih0 _ _ _)
   | (with_reducible exact LeO.refl _)
   | (with_reducible exact LeO.none _)
   | (with_reducible refine LeO.ite ?_ ?_)
   | (with_reducible refine LeO.bind ?_ (fun _=>?_))
   | exact ih0 _ _ _
   | exact LeO.none _
   | refine LeO.ite ?_ ?_
   | refine LeO.bind ?_ (fun _=>?_)
set_option maxHeartbeats 8000000 in
set_option maxRecDepth 100000 in
theorem spec_hasInt.calls (k : Nat) (A0 : Option Addr) (c0 : Nat) (l0 : List Int) (a1 : Int) (r : Bool) (w : World) (hr0 : Kd.C (Kd.int .i64) w A0 l0.length l0) (hc0 : l0.length ≤ c0) (h : spec_hasInt.f k l0 a1 = some r) :
  Calls Try.prog 64 #[.slice A0 l0.length c0,.int .i64 a1] w fun e w'=>e = .returned (.bool r) ∧ Drawn0 w w':=by
 have HR0:=a0_ hr0
 have HC0:=a0_ hc0
 clear hr0 hc0
 have H : (spec_hasInt.l0 k l0 a1 0) = some r:=h
 clear h
 have H':=a0_ H
 clear H
 go_enter Try.func64,Try.ntmps64
 go_wp2
 go_loopg [5] k (fun kq v5 w'=>∃ (x5_1 : Int),v5 = .int .i64 x5_1 ∧ Aside0 (spec_hasInt.l0 kq l0 a1 x5_1 = some r) ∧ Aside0 (kq ≤ k) ∧ Drawn0 w w')
 case atStart=>exact ⟨(0),(by first | rfl | (simp;done) | (simp [*];done)),H',⟨Nat.le_refl _⟩,by repeat (first | exact Drawn0.refl _ | apply Drawn0.step)⟩
 case round =>
  clear H'
  try clear p2
  obtain ⟨x5_1,rfl,HA,HK1,⟨m1,rfl⟩⟩:=hrel
  cases gk with
  | zero=>exact absurd HA.out (by simp [spec_hasInt.l0])
  | succ k1 =>
   have H:=HA.out
   clear HA
   simp only [spec_hasInt.l0] at H
   by_cases c3 : x5_1 < (l0.length : Int)
   ·rw [if_pos c3] at H
    have c3b0 : decide (x5_1 < (l0.length : Int)) = true:=decide_eq_true c3
    clear c3
    by_cases c4 : 0 ≤ x5_1
    ·rw [if_pos c4] at H
     have c4b0 : decide (0 ≤ x5_1) = true:=decide_eq_true c4
     clear c4
     by_cases c5 : (rd l0 x5_1) = a1
     ·rw [if_pos c5] at H
      have c5b0 : ((rd l0 x5_1) == a1) = true:=beq_iff_eq.mpr c5
      have c5b1 : ((rd l0 x5_1) != a1) = false:=bne_eq_false_iff_eq.mpr c5
      clear c5
      obtain rfl:=Option.some.inj H
      have p1 : 0 ≤ (x5_1 : Int):=of_decide_eq_true (by first | (with_reducible assumption) | assumption)
      have q1 : x5_1 < (l0.length : Int):=of_decide_eq_true (by first | (with_reducible assumption) | assumption)
      obtain ⟨ad1,e1,hx1_0⟩:=Kd.at_int HR0.out x5_1 p1 q1
      cases e1
      replace p1:=eq_true p1
      replace q1:=eq_true q1
      go_wp2
      go_ret
      exact ⟨by first | rfl | (simp;done) | (simp [*];done),by repeat (first | exact Drawn0.refl _ | apply Drawn0.step)⟩
     ·rw [if_neg c5] at H
      have c5b0 : ((rd l0 x5_1) == a1) = false:=beq_eq_false_iff_ne.mpr c5
      have c5b1 : ((rd l0 x5_1) != a1) = true:=bne_iff_ne.mpr c5
      have H':=a0_ H
      clear H
      have p1 : 0 ≤ (x5_1 : Int):=of_decide_eq_true (by first | (with_reducible assumption) | assumption)
      have q1 : x5_1 < (l0.length : Int):=of_decide_eq_true (by first | (with_reducible assumption) | assumption)
      obtain ⟨ad1,e1,hx1_0⟩:=Kd.at_int HR0.out x5_1 p1 q1
      cases e1
      replace p1:=eq_true p1
      replace q1:=eq_true q1
      go_wp2
      go_roundg k1
      case measure=>have:=HK1.out;omega
      case rel=>exact ⟨(wrap64 (x5_1 + 1)),(by first | rfl | (simp;done) | (simp [*];done)),H',⟨by have:=HK1.out;omega⟩,by repeat (first | exact Drawn0.refl _ | apply Drawn0.step)⟩
    ·rw [if_neg c4] at H
     exact absurd H (by simp)
   ·rw [if_neg c3] at H
    have c3b0 : decide (x5_1 < (l0.length : Int)) = false:=decide_eq_false c3
    clear c3
    obtain rfl:=Option.some.inj H
    go_wp2
    go_ret
    exact ⟨by first | rfl | (simp;done) | (simp [*];done),by repeat (first | exact Drawn0.refl _ | apply Drawn0.step)⟩
theorem spec_hasInt_l0 (l : List Int) (x : Int) (hs : l.length ≤ 9223372036854775807) (d : Nat) : ∀ (k : Nat) (i : Nat),i ≤ l.length → l.length - i = d → d < k → spec_hasInt.l0 k l x (i : Int) = some ((l.drop i).contains x):=by
 induction d with
 | zero =>
  intro k i hi hd hk
  obtain ⟨k,rfl⟩ : ∃ m,k = m + 1:=⟨k - 1,by omega⟩
  simp only [spec_hasInt.l0]
  rw [if_neg (show ¬ (i : Int) < (l.length : Int) by omega),List.drop_eq_nil_of_le (by omega)]
  rfl
 | succ d ih =>
  intro k i hi hd hk
  obtain ⟨k,rfl⟩ : ∃ m,k = m + 1:=⟨k - 1,by omega⟩
  have hlt : i < l.length:=by omega
  simp only [spec_hasInt.l0]
  have hrd : rd l (i : Int) = l[i]:=by simp [rd,hlt]
  rw [if_pos (show (i : Int) < (l.length : Int) by omega),if_pos (show (0 : Int) ≤ (i : Int) by omega),hrd,List.drop_eq_getElem_cons hlt]
  by_cases h1 : l[i] = x
  ·rw [if_pos h1];simp [h1]
  ·rw [if_neg h1,wrap_succ (n:=l.length) (by omega) (by omega) (by omega)]
   rw [show ((i : Int) + 1) = ((i + 1 : Nat) : Int) by omega,ih k (i + 1) (by omega) (by omega) (by omega)]
   have h2 : ¬ x = l[i]:=fun e=>h1 e.symm
   rw [List.contains_cons,beq_eq_false_iff_ne.2 h2,Bool.false_or]
theorem spec_hasInt_ev (l : List Int) (x : Int) (hs : l.length ≤ 9223372036854775807) (k : Nat) (hk : l.length < k) : spec_hasInt.f k l x = some (l.contains x):=by
 have:=spec_hasInt_l0 l x hs l.length k 0 (by omega) (by omega) hk
 rw [List.drop_zero] at this
 exact this
end Go.Proofs.Ytmiholmfbjalfaa.P
namespace Go.Proofs.Ytmiholmfbjalfaa.P
open Go.RowKit Go.Proofs.YtmiholmfbjalfaaW.PrintWords Go.Proofs.YtmiholmfbjalfaaW.PrintLast Go.Proofs.YtmiholmfbjalfaaW.PrintMore
attribute [local go_sem] max2_int min2_int max_two min_two max_three min_three max_four min_four
set_option linter.unusedVariables false
set_option linter.unusedSimpArgs false
def spec_contexts.l0 : Nat → Int → List Int → List (S43) → Option (List Int)
 | 0,_,_,_=>none
 | k + 1,x1,x5,x2000=>if x1 ≥ 0 then ((spec_hasInt.f k x5 x1).bind fun t5=>(if t5 = true then (some x5) else (if x5.length < 17592186044416 then (if 0 ≤ x1 then (if x1 < (x2000.length : Int) then (spec_contexts.l0 k ((rd_T43 x2000 x1).f3) (x5 ++ [x1]) x2000) else (none)) else (none)) else (none)))) else (some x5)
def spec_contexts.f (k : Nat) (l0_0 : List (S43)) (a1 : Int) : Option (List Int):=spec_contexts.l0 k a1 (([] : List Int)) l0_0
theorem spec_contexts.mono_l : ∀ k,(∀ y0 y1 y2,LeO (spec_contexts.l0 k y0 y1 y2) (spec_contexts.l0 (k + 1) y0 y1 y2))
 | 0=>fun _ _ _ r h=>by simp [spec_contexts.l0] at h
 | k + 1=>by
  have ih0:=spec_contexts.mono_l k
  ·intro y0 y1 y2
   unfold spec_contexts.l0
   repeat' first
   | (with_reducible exact ih0 _ _ _)
   | (with_reducible exact spec_hasInt.mono _ _ _)
   | (with_reducible exact LeO.refl _)
   | (with_reducible exact LeO.none _)
   | (with_reducible refine LeO.ite ?_ ?_)
   | (with_reducible refine LeO.bind ?_ (fun _=>?_))
   | exact ih0 _ _ _
   | exact spec_hasInt.mono _ _ _
   | exact LeO.none _
   | refine LeO.ite ?_ ?_
   | refine LeO.bind ?_ (fun _=>?_)
theorem spec_contexts.mono : ∀ a0 a1 k,LeO (spec_contexts.f k a0 a1) (spec_contexts.f (k + 1) a0 a1):=by
 intro a0 a1 k
 have ih0:=spec_contexts.mono_l k
 unfold spec_contexts.f
 repeat' first
   | (with_reducible exact ih0 _ _ _)
   | (with_reducible exact spec_hasInt.mono _ _ _)
   | (with_reducible exact LeO.refl _)
   | (with_reducible exact LeO.none _)
   | (with_reducible refine LeO.ite ?_ ?_)
   | (with_reducible refine LeO.bind ?_ (fun _=>?_))
   | exact ih0 _ _ _
   | exact spec_hasInt.mono _ _ _
   | exact LeO.none _
   | refine LeO.ite ?_ ?_
   | refine LeO.bind ?_ (fun _=>?_)
set_option maxHeartbeats 8000000 in
set_option maxRecDepth 100000 in
theorem spec_contexts.calls (k : Nat) (A0_0 : Option Addr) (c0_0 : Nat) (l0_0 : List (S43)) (a1 : Int) (r : List Int) (w : World) (hr0_0 : Kd.C k43 w A0_0 l0_0.length l0_0) (hc0_0 : l0_0.length ≤ c0_0) (h : spec_contexts.f k l0_0 a1 = some r) :
  Calls Try.prog 73 #[.agg #[.slice A0_0 l0_0.length c0_0],.int .i64 a1] w fun e w'=>∃ v0_ : Value,e = .returned (v0_) ∧ Kd.R (Kd.int .i64) 3 w' w.heap.size (fun _=>True) v0_ r ∧ Below w.heap.size w w':=by
 have hu28:=Try.underlying28
 have HR0_0:=a0_ hr0_0
 have HC0_0:=a0_ hc0_0
 clear hr0_0 hc0_0
 have HB:=a0_ (Below.refl w.heap.size w)
 have H : (spec_contexts.l0 k a1 (([] : List Int)) l0_0) = some r:=h
 clear h
 obtain ⟨y2,hy2⟩ : ∃ y_ : List Int,y_ = (([] : List Int)):=⟨_,rfl⟩
 replace H : (spec_contexts.l0 k a1 y2 l0_0) = some r:=by first | (rw [hy2];with_reducible exact H) | (have H2_:=(Option.bind_some _ _).symm.trans H;rw [hy2];with_reducible exact H2_) | (have H2_:=(Option.bind_some _ _).symm.trans H;with_reducible exact H2_) | with_reducible exact H | (rw [hy2];exact H) | exact H
 have Ny2:=a0_ hy2
 clear hy2
 have H':=a0_ H
 clear H
 go_enter Try.func73,Try.ntmps73
 go_wp2_with (first | ((with_reducible refine gate_dst (N:=2) rfl ?_);refine box_event ?hg (N:=2) ?hd (cs:=#[.slice A0_0 l0_0.length c0_0]) (t:=28) ?hr ?_;(case hd=>rfl);(case hg=>rfl);(case hr=>first | (go_simp;done) | (go_simp;rfl));intro gb1 hg w3 hbox hb;have BK1:=a0_ (hbox);have GW1:=a0_ ((by rw [hg];exact (below_size hbw_) : w.heap.size ≤ gb1));have GE1:=a0_ ((by rw [hg];exact (below_size hbw_) : w.heap.size ≤ gb1));replace HB:=a0_ (below_step hbw_ hb);clear hb hbox hg) | ((with_reducible refine gate_dst (N:=6) rfl ?_);refine Kd.R_lit (Kd.int .i64) _ 3 ?hg (N:=6) ?hd (xs:=([] : List Int)) (inner:=[]) (ok:=fun _=>True) (okp:=fun _=>True) ?hr ?hp (fun _ hk=>hk) trivial (Below.refl _ _) (Nat.le_refl _) (by simp) ?_;(case hd=>rfl);(case hg=>rfl);(case hr=>first | (go_simp;done) | (go_simp;rfl));(case hp=>exact (Reps.none _ _));intro v3 w4 ho5 hb hg_ hnew_;clear hg_ hnew_;(first | rw [← Ny2.out] at ho5 | (simp only [Int.reduceToNat] at ho5;rw [← Ny2.out] at ho5));have HO4:=a0_ (Kd.R_lower ho5 (below_size hbw_));replace BK1:=kb_ BK1 hb;replace HB:=a0_ (below_step hbw_ hb);clear hb ho5))
 go_loopg [1,5] k (fun kq v1 v5 w'=>∃ (x1_1 : Int) (x5_1 : List Int),v1 = .int .i64 x1_1 ∧ Aside0 (spec_contexts.l0 kq x1_1 x5_1 l0_0 = some r) ∧ Aside0 (kq ≤ k) ∧ Aside0 (Kd.R (Kd.int .i64) 3 w' w.heap.size (fun _=>True) v5 x5_1) ∧ Aside0 (w'.heap[gb1]? = some (.cells #[(.slice A0_0 l0_0.length c0_0)] 28 (0,0))) ∧ Aside0 (Below w.heap.size w w'))
 case atStart=>exact ⟨(a1),(y2),(by first | rfl | (simp;done) | (simp [*];done)),H',⟨Nat.le_refl _⟩,⟨by (with_reducible repeat (first | apply Kd.R_alloc | apply Kd.R_drewN | apply Kd.R_drew));exact HO4.out⟩,⟨by (with_reducible repeat (first | refine blk_drewN ?_ _ | refine blk_drew ?_ | refine blk_alloc ?_ _));exact BK1.out⟩,⟨hbw_⟩⟩
 case round =>
  clear H'
  try clear p2
  obtain ⟨x1_1,x5_1,rfl,HA,HK1,HO_5,BK1,HB⟩:=hrel
  cases gk with
  | zero=>exact absurd HA.out (by simp [spec_contexts.l0])
  | succ k1 =>
   have H:=HA.out
   clear HA
   simp only [spec_contexts.l0] at H
   by_cases c6 : x1_1 ≥ 0
   ·rw [if_pos c6] at H
    have c6b0 : decide (0 ≤ x1_1) = true:=decide_eq_true c6
    clear c6
    replace H:=Option.bind_eq_some_iff.mp H
    obtain ⟨t5,A70,H⟩:=H
    try dsimp only at H
    have A7:=a0_ A70
    clear A70
    by_cases c8 : t5 = true
    ·subst c8
     have H1 : (some x5_1) = some r:=by rw [if_pos rfl] at H;exact H
     clear H
     have H:=H1
     clear H1
     obtain rfl:=Option.some.inj H
     obtain ⟨Ao9,co9,eo9⟩:=Kd.R_slice HO_5.out
     subst eo9
     go_wp2_with (first | (go_at_call 64;(with_reducible refine (spec_hasInt.calls k1 _ _ x5_1 x1_1 true _ ?side1 ?side2 A7.out).mono ?_);(case side1=>exact cc_ (Kd.R_reads' HO_5.out).2.2);(case side2=>exact (Kd.R_reads' HO_5.out).2.1);rintro e w' ⟨rfl,⟨nd,rfl⟩⟩))
     go_ret
     exact ⟨_,by first | rfl | (simp [errW_none,errW_some] <;> rfl) | (simp [*,errW_none,errW_some] <;> rfl),by (with_reducible repeat (first | apply Kd.R_alloc | apply Kd.R_drewN | apply Kd.R_drew));exact HO_5.out,hbw_⟩
    ·replace c8:=Bool.eq_false_iff.mpr c8
     subst c8
     have H1 : (if x5_1.length < 17592186044416 then (if 0 ≤ x1_1 then (if x1_1 < (l0_0.length : Int) then (spec_contexts.l0 k1 ((rd_T43 l0_0 x1_1).f3) (x5_1 ++ [x1_1]) l0_0) else (none)) else (none)) else (none)) = some r:=by rw [if_neg (show ¬ (false = true) by decide)] at H;exact H
     clear H
     have H:=H1
     clear H1
     by_cases c10 : x5_1.length < 17592186044416
     ·rw [if_pos c10] at H
      have LMc10:=a0_ c10
      clear c10
      obtain ⟨y6,hy6⟩ : ∃ y_ : List Int,y_ = (x5_1 ++ [x1_1]):=⟨_,rfl⟩
      replace H : (if 0 ≤ x1_1 then (if x1_1 < (l0_0.length : Int) then (spec_contexts.l0 k1 ((rd_T43 l0_0 x1_1).f3) y6 l0_0) else (none)) else (none)) = some r:=by first | (rw [hy6];with_reducible exact H) | (have H2_:=(Option.bind_some _ _).symm.trans H;rw [hy6];with_reducible exact H2_) | (have H2_:=(Option.bind_some _ _).symm.trans H;with_reducible exact H2_) | with_reducible exact H | (rw [hy6];exact H) | exact H
      have Ny6:=a0_ hy6
      clear hy6
      by_cases c11 : 0 ≤ x1_1
      ·rw [if_pos c11] at H
       have c11b0 : decide (0 ≤ x1_1) = true:=decide_eq_true c11
       clear c11
       by_cases c12 : x1_1 < (l0_0.length : Int)
       ·rw [if_pos c12] at H
        have c12b0 : decide (x1_1 < (l0_0.length : Int)) = true:=decide_eq_true c12
        clear c12
        have H':=a0_ H
        clear H
        obtain ⟨Ao13,co13,eo13⟩:=Kd.R_slice HO_5.out
        subst eo13
        go_wp2_with (first | (go_at_call 64;(with_reducible refine (spec_hasInt.calls k1 _ _ x5_1 x1_1 false _ ?side1 ?side2 A7.out).mono ?_);(case side1=>exact cc_ (Kd.R_reads' HO_5.out).2.2);(case side2=>exact (Kd.R_reads' HO_5.out).2.1);rintro e w' ⟨rfl,⟨nd,rfl⟩⟩) | ((with_reducible refine gate_builtin (b:=.append) (xs:=#[.tmp 15,.tmp 17]) rfl ?_);at_builtin;refine Kd.R_append (Kd.int .i64) (w0:=w) w.heap.size rfl (.tmp 15) (.tmp 17) 31 3 (.int .i64 0) 8 rfl Try.underlying31 info3 rfl (by decide) (by omega) (.slice Ao13 x5_1.length co13) x5_1 x1_1 [.int .i64 x1_1] (fun _=>True) (fun _=>False) rfl rfl ?aP (fun _ hk=>hk.elim) ?aF ?aO ?aB ?aS ?aL ?_;(case aP=>exact rfl);(case aB=>exact hbw_);(case aF=>exact (fun _ _=>trivial));(case aO=>exact (rr_ HO_5.out));(case aS=>exact (below_size hbw_));(case aL=>have:=LMc10.out;omega);intro v7 w14 ho hb hg hat;rw [← Ny6.out] at ho;replace BK1:=a0_ (blk_grown (bb_ BK1.out) hg (Kd.R_ne HO_5.out BK1.out (by decide)));have HO8:=a0_ (ho);replace HB:=a0_ (hb);clear HO_5;clear ho hb hg hat;have hcz15_0 : w14.cell? ⟨gb1,0,none⟩ = some (.slice A0_0 l0_0.length c0_0):=(blk_cell BK1.out 0).trans rfl;have hfz15_0:=blk_frozen BK1.out 0;have p9 : 0 ≤ (x1_1 : Int):=of_decide_eq_true (by first | (with_reducible assumption) | assumption);have q9 : x1_1 < (l0_0.length : Int):=of_decide_eq_true (by first | (with_reducible assumption) | assumption);obtain ⟨ad9,e9,hx9_0,hx9_1,hx9_2,hx9_3,hx9_4⟩:=at_T43 HR0_0.out x1_1 p9 q9;cases e9;replace hx9_0:=(HB.out.cell (World.block_lt_of_cell? w _ hx9_0)).trans hx9_0;replace hx9_1:=(HB.out.cell (World.block_lt_of_cell? w _ hx9_1)).trans hx9_1;replace hx9_2:=(HB.out.cell (World.block_lt_of_cell? w _ hx9_2)).trans hx9_2;replace hx9_3:=(HB.out.cell (World.block_lt_of_cell? w _ hx9_3)).trans hx9_3;replace hx9_4:=(HB.out.cell (World.block_lt_of_cell? w _ hx9_4)).trans hx9_4;replace p9:=eq_true p9;replace q9:=eq_true q9))
        go_roundg k1
        case measure=>have:=HK1.out;omega
        case rel=>exact ⟨((rd_T43 l0_0 x1_1).f3),(y6),(by first | rfl | (simp;done) | (simp [*];done)),H',⟨by have:=HK1.out;omega⟩,⟨by (with_reducible repeat (first | apply Kd.R_alloc | apply Kd.R_drewN | apply Kd.R_drew));exact HO8.out⟩,⟨by (with_reducible repeat (first | refine blk_drewN ?_ _ | refine blk_drew ?_ | refine blk_alloc ?_ _));exact BK1.out⟩,⟨hbw_⟩⟩
       ·rw [if_neg c12] at H
        exact absurd H (by simp)
      ·rw [if_neg c11] at H
       exact absurd H (by simp)
     ·rw [if_neg c10] at H
      exact absurd H (by simp)
   ·rw [if_neg c6] at H
    have c6b0 : decide (0 ≤ x1_1) = false:=decide_eq_false c6
    clear c6
    obtain rfl:=Option.some.inj H
    go_wp2
    go_ret
    exact ⟨_,by first | rfl | (simp [errW_none,errW_some] <;> rfl) | (simp [*,errW_none,errW_some] <;> rfl),by (with_reducible repeat (first | apply Kd.R_alloc | apply Kd.R_drewN | apply Kd.R_drew));exact HO_5.out,hbw_⟩
theorem spec_contexts_l0 (h : List Fau) (hl : h.length ≤ 2097152) (hc : ∀ x : Int,0 ≤ x → x < (h.length : Int) → ctxN h x < (h.length : Int)) : ∀ (d : Nat) (out : List Int) (f : Int),f < (h.length : Int) → restN h.length out ≤ d → out.length + d ≤ h.length → Ev (fun k=>spec_contexts.l0 k f out h) (walkL (ctxN h) d out f):=by
 intro d
 induction d with
 | zero =>
  intro out f hf hr hd
  refine Ev.succ ?_
  simp only [spec_contexts.l0]
  rw [walkL]
  by_cases h0 : f ≥ 0
  ·refine Ev.pos h0 (Ev.bind (Ev.of_mono (spec_hasInt.mono out f) (K:=out.length + 1) (spec_hasInt_ev out f (by omega) _ (by omega))) ?_)
   rw [restN_zero (n:=h.length) (out:=out) h0 hf (by omega)]
   exact Ev.pos rfl (Ev.const rfl)
  ·exact Ev.neg h0 (Ev.const rfl)
 | succ d ih =>
  intro out f hf hr hd
  refine Ev.succ ?_
  simp only [spec_contexts.l0]
  by_cases h0 : f ≥ 0
  ·refine Ev.pos h0 (Ev.bind (Ev.of_mono (spec_hasInt.mono out f) (K:=out.length + 1) (spec_hasInt_ev out f (by omega) _ (by omega))) ?_)
   cases hq : out.contains f with
   | true =>
    rw [walkL_stop _ _ _ _ (by rw [hq];simp)]
    exact Ev.pos rfl (Ev.const rfl)
   | false =>
    have hn : (rd_T43 h f).f3 = ctxN h f:=by simp [rd_T43,ctxN]
    have:=restN_lt h0 hf hq
    rw [walkL,if_pos ⟨h0,hq⟩,hn]
    refine Ev.neg (by simp) (Ev.pos (by omega) (Ev.pos h0 (Ev.pos (by omega) ?_)))
    exact ih (out ++ [f]) (ctxN h f) (hc f h0 hf) (by omega) (by rw [List.length_append,List.length_singleton];omega)
  ·rw [walkL_stop _ _ _ _ (fun hh=>h0 hh.1)]
   exact Ev.neg h0 (Ev.const rfl)
theorem spec_contexts_ev (h : List Fau) (hl : h.length ≤ 2097152) (hc : ∀ x : Int,0 ≤ x → x < (h.length : Int) → ctxN h x < (h.length : Int)) (f : Int) (hf : f < (h.length : Int)) : Ev (fun k=>spec_contexts.f k h f) (ctxL h f) :=
 spec_contexts_l0 h hl hc h.length [] f hf (restN_le _ _) (by simp)
end Go.Proofs.Ytmiholmfbjalfaa.P
namespace Go.Proofs.Ytmiholmfbjalfaa.P
open Go.RowKit Go.Proofs.YtmiholmfbjalfaaW.PrintWords Go.Proofs.YtmiholmfbjalfaaW.PrintLast Go.Proofs.YtmiholmfbjalfaaW.PrintMore
attribute [local go_sem] max2_int min2_int max_two min_two max_three min_three max_four min_four
set_option linter.unusedVariables false
set_option linter.unusedSimpArgs false
def spec_validName.l0 : Nat → ByteArray → Int → Option (Bool)
 | 0,_,_=>none
 | k + 1,x0,x3=>if x3 < (x0.size : Int) then (if 0 ≤ x3 then (if (bt x0 x3) < 97 then (some false) else (if (bt x0 x3) > 122 then (some false) else (spec_validName.l0 k x0 (wrap64 (x3 + 1))))) else (none)) else ((spec_inRange.f (x0.size : Int) 1 6).bind fun t1=>(some t1))
def spec_validName.f (k : Nat) (a0 : ByteArray) : Option (Bool):=spec_validName.l0 k a0 0
theorem spec_validName.mono_l : ∀ k,(∀ y0 y1,LeO (spec_validName.l0 k y0 y1) (spec_validName.l0 (k + 1) y0 y1))
 | 0=>fun _ _ r h=>by simp [spec_validName.l0] at h
 | k + 1=>by
  have ih0:=spec_validName.mono_l k
  ·intro y0 y1
   unfold spec_validName.l0
   repeat' first
   | (with_reducible exact ih0 _ _)
   | (with_reducible exact LeO.refl _)
   | (with_reducible exact LeO.none _)
   | (with_reducible refine LeO.ite ?_ ?_)
   | (with_reducible refine LeO.bind ?_ (fun _=>?_))
   | exact ih0 _ _
   | exact LeO.none _
   | refine LeO.ite ?_ ?_
   | refine LeO.bind ?_ (fun _=>?_)
theorem spec_validName.mono : ∀ a0 k,LeO (spec_validName.f k a0) (spec_validName.f (k + 1) a0):=by
 intro a0 k
 have ih0:=spec_validName.mono_l k
 unfold spec_validName.f
 repeat' first
   | (with_reducible exact ih0 _ _)
   | (with_reducible exact LeO.refl _)
   | (with_reducible exact LeO.none _)
   | (with_reducible refine LeO.ite ?_ ?_)
   | (with_reducible refine LeO.bind ?_ (fun _=>?_))
   | exact ih0 _ _
   | exact LeO.none _
   | refine LeO.ite ?_ ?_
   | refine LeO.bind ?_ (fun _=>?_)
set_option maxHeartbeats 8000000 in
set_option maxRecDepth 100000 in
theorem spec_validName.calls (k : Nat) (a0 : ByteArray) (r : Bool) (w : World) (h : spec_validName.f k a0 = some r) :
  Calls Try.prog 83 #[.string a0] w fun e w'=>e = .returned (.bool r) ∧ Drawn0 w w':=by
 have H : (spec_validName.l0 k a0 0) = some r:=h
 clear h
 have H':=a0_ H
 clear H
 go_enter Try.func83,Try.ntmps83
 go_wp2
 go_loopg [3] k (fun kq v3 w'=>∃ (x3_1 : Int),v3 = .int .i64 x3_1 ∧ Aside0 (spec_validName.l0 kq a0 x3_1 = some r) ∧ Aside0 (kq ≤ k) ∧ Drawn0 w w')
 case atStart=>exact ⟨(0),(by first | rfl | (simp;done) | (simp [*];done)),H',⟨Nat.le_refl _⟩,by repeat (first | exact Drawn0.refl _ | apply Drawn0.step)⟩
 case round =>
  clear H'
  obtain ⟨x3_1,rfl,HA,HK1,⟨m1,rfl⟩⟩:=hrel
  cases gk with
  | zero=>exact absurd HA.out (by simp [spec_validName.l0])
  | succ k1 =>
   have H:=HA.out
   clear HA
   simp only [spec_validName.l0] at H
   by_cases c2 : x3_1 < (a0.size : Int)
   ·rw [if_pos c2] at H
    have c2b0 : decide (x3_1 < (a0.size : Int)) = true:=decide_eq_true c2
    clear c2
    by_cases c3 : 0 ≤ x3_1
    ·rw [if_pos c3] at H
     have c3b0 : decide (0 ≤ x3_1) = true:=decide_eq_true c3
     clear c3
     by_cases c5 : (bt a0 x3_1) < 97
     ·rw [if_pos c5] at H
      have c5b0 : decide ((bt a0 x3_1) < 97) = true:=decide_eq_true c5
      clear c5
      obtain rfl:=Option.some.inj H
      have p4 : 0 ≤ (x3_1 : Int):=of_decide_eq_true (by first | (with_reducible assumption) | assumption)
      have q4 : x3_1 < (a0.size : Int):=of_decide_eq_true (by first | (with_reducible assumption) | assumption)
      have hx4:=bt_at a0 x3_1
      replace p4:=eq_true p4
      replace q4:=eq_true q4
      go_wp2
      go_ret
      exact ⟨by first | rfl | (simp;done) | (simp [*];done),by repeat (first | exact Drawn0.refl _ | apply Drawn0.step)⟩
     ·rw [if_neg c5] at H
      have c5b0 : decide ((bt a0 x3_1) < 97) = false:=decide_eq_false c5
      clear c5
      by_cases c7 : (bt a0 x3_1) > 122
      ·rw [if_pos c7] at H
       have c7b0 : decide (122 < (bt a0 x3_1)) = true:=decide_eq_true c7
       clear c7
       obtain rfl:=Option.some.inj H
       have p4 : 0 ≤ (x3_1 : Int):=of_decide_eq_true (by first | (with_reducible assumption) | assumption)
       have q4 : x3_1 < (a0.size : Int):=of_decide_eq_true (by first | (with_reducible assumption) | assumption)
       have hx4:=bt_at a0 x3_1
       replace p4:=eq_true p4
       replace q4:=eq_true q4
       have p6 : 0 ≤ (x3_1 : Int):=of_decide_eq_true (by first | (with_reducible assumption) | assumption)
       have q6 : x3_1 < (a0.size : Int):=of_decide_eq_true (by first | (with_reducible assumption) | assumption)
       have hx6:=bt_at a0 x3_1
       replace p6:=eq_true p6
       replace q6:=eq_true q6
       go_wp2
       go_ret
       exact ⟨by first | rfl | (simp;done) | (simp [*];done),by repeat (first | exact Drawn0.refl _ | apply Drawn0.step)⟩
      ·rw [if_neg c7] at H
       have c7b0 : decide (122 < (bt a0 x3_1)) = false:=decide_eq_false c7
       clear c7
       have H':=a0_ H
       clear H
       have p4 : 0 ≤ (x3_1 : Int):=of_decide_eq_true (by first | (with_reducible assumption) | assumption)
       have q4 : x3_1 < (a0.size : Int):=of_decide_eq_true (by first | (with_reducible assumption) | assumption)
       have hx4:=bt_at a0 x3_1
       replace p4:=eq_true p4
       replace q4:=eq_true q4
       have p6 : 0 ≤ (x3_1 : Int):=of_decide_eq_true (by first | (with_reducible assumption) | assumption)
       have q6 : x3_1 < (a0.size : Int):=of_decide_eq_true (by first | (with_reducible assumption) | assumption)
       have hx6:=bt_at a0 x3_1
       replace p6:=eq_true p6
       replace q6:=eq_true q6
       go_wp2
       go_roundg k1
       case measure=>have:=HK1.out;omega
       case rel=>exact ⟨(wrap64 (x3_1 + 1)),(by first | rfl | (simp;done) | (simp [*];done)),H',⟨by have:=HK1.out;omega⟩,by repeat (first | exact Drawn0.refl _ | apply Drawn0.step)⟩
    ·rw [if_neg c3] at H
     exact absurd H (by simp)
   ·rw [if_neg c2] at H
    have c2b0 : decide (x3_1 < (a0.size : Int)) = false:=decide_eq_false c2
    clear c2
    replace H:=Option.bind_eq_some_iff.mp H
    obtain ⟨t1,A80,H⟩:=H
    replace H : (some t1) = some r:=H
    have A8:=a0_ A80
    clear A80
    obtain rfl:=Option.some.inj H
    go_wp2_with (first | ((with_reducible refine gate_callee (f:=71) rfl ?_);refine goesL_ (some 22) rfl rfl Try.func71 (by kernel_rfl) rfl #[.int .i64 (a0.size : Int),.int .i64 1,.int .i64 6] rfl lm_ ?_;(with_reducible refine (spec_inRange.calls (a0.size : Int) 1 6 t1 _ A8.out).mono ?_);rintro e w' ⟨rfl,⟨nd,rfl⟩⟩;refine ⟨_,rfl,?_⟩))
    go_ret
    exact ⟨by first | rfl | (simp;done) | (simp [*];done),by repeat (first | exact Drawn0.refl _ | apply Drawn0.step)⟩
theorem spec_validName_l0 (s : ByteArray) (hs : s.size ≤ 9223372036854775807) (d : Nat) : ∀ (k : Nat) (i : Nat),i ≤ s.size → s.size - i = d → d < k → spec_validName.l0 k s (i : Int) = some ((s.data.toList.drop i).all (fun c=>decide (97 ≤ c.toNat) && decide (c.toNat ≤ 122)) && (decide (1 ≤ s.size) && decide (s.size ≤ 6))):=by
 induction d with
 | zero =>
  intro k i hi hd hk
  obtain ⟨k,rfl⟩ : ∃ m,k = m + 1:=⟨k - 1,by omega⟩
  simp only [spec_validName.l0]
  rw [if_neg (by omega)]
  have : s.data.toList.drop i = []:=by
   apply List.drop_eq_nil_of_le
   have : s.data.toList.length = s.size:=toL_len s
   omega
  rw [this]
  simp only [spec_inRange.f,List.all_nil,Bool.true_and]
  by_cases h1 : 1 ≤ s.size
  ·rw [if_pos (show (s.size : Int) ≥ 1 by omega)]
   by_cases h2 : s.size ≤ 6
   ·simp [h1,h2];omega
   ·simp [h2];omega
  ·rw [if_neg (show ¬ (1 : Int) ≤ s.size by omega)];simp [h1]
 | succ d ih =>
  intro k i hi hd hk
  obtain ⟨k,rfl⟩ : ∃ m,k = m + 1:=⟨k - 1,by omega⟩
  have hlt : i < s.size:=by omega
  have hl : s.data.toList.length = s.size:=toL_len s
  simp only [spec_validName.l0]
  rw [if_pos (show (i : Int) < (s.size : Int) by omega),if_pos (show (0 : Int) ≤ (i : Int) by omega),bt_getElem s i hlt]
  have hd2 : s.data.toList.drop i = s[i] :: s.data.toList.drop (i + 1):=by
   rw [List.drop_eq_getElem_cons (by omega)]
   congr 1
  rw [hd2,List.all_cons]
  by_cases h1 : (s[i].toNat : Int) < 97
  ·rw [if_pos h1];have : ¬ 97 ≤ s[i].toNat:=by omega
   simp [this]
  ·rw [if_neg h1]
   by_cases h2 : (s[i].toNat : Int) > 122
   ·rw [if_pos h2];have : ¬ s[i].toNat ≤ 122:=by omega
    simp [this]
   ·rw [if_neg h2,wrap_succ (n:=s.size) (by omega) (by omega) (by omega)]
    have:=ih k (i + 1) (by omega) (by omega) (by omega)
    rw [show ((i : Int) + 1) = ((i + 1 : Nat) : Int) by omega,this]
    have a : 97 ≤ s[i].toNat:=by omega
    have b : s[i].toNat ≤ 122:=by omega
    simp [a,b]
theorem spec_validName_ev (s : ByteArray) (hs : s.size ≤ 9223372036854775807) : spec_validName.f (s.size + 1) s = some (okName s):=by
 unfold spec_validName.f okName
 have:=spec_validName_l0 s hs s.size (s.size + 1) 0 (by omega) (by omega) (by omega)
 simpa using this
end Go.Proofs.Ytmiholmfbjalfaa.P
namespace Go.Proofs.Ytmiholmfbjalfaa.P
open Go.RowKit Go.Proofs.YtmiholmfbjalfaaW.PrintWords Go.Proofs.YtmiholmfbjalfaaW.PrintLast Go.Proofs.YtmiholmfbjalfaaW.PrintMore
attribute [local go_sem] max2_int min2_int max_two min_two max_three min_three max_four min_four
set_option linter.unusedVariables false
set_option linter.unusedSimpArgs false
def spec_classNamed.l0 : Nat → List (S87) → ByteArray → Int → Option (Int)
 | 0,_,_,_=>none
 | k + 1,x0,x1,x5=>if x5 < (x0.length : Int) then (if 0 ≤ x5 then (if ((rd_T87 x0 x5).f0).toList = x1.toList then (some x5) else (spec_classNamed.l0 k x0 x1 (wrap64 (x5 + 1)))) else (none)) else (some (-1))
def spec_classNamed.f (k : Nat) (l0 : List (S87)) (a1 : ByteArray) : Option (Int):=spec_classNamed.l0 k l0 a1 0
theorem spec_classNamed.mono_l : ∀ k,(∀ y0 y1 y2,LeO (spec_classNamed.l0 k y0 y1 y2) (spec_classNamed.l0 (k + 1) y0 y1 y2))
 | 0=>fun _ _ _ r h=>by simp [spec_classNamed.l0] at h
 | k + 1=>by
  have ih0:=spec_classNamed.mono_l k
  ·intro y0 y1 y2
   unfold spec_classNamed.l0
   repeat' first
   | (with_reducible exact ih0 _ _ _)
   | (with_reducible exact LeO.refl _)
   | (with_reducible exact LeO.none _)
   | (with_reducible refine LeO.ite ?_ ?_)
   | (with_reducible refine LeO.bind ?_ (fun _=>?_))
   | exact ih0 _ _ _
   | exact LeO.none _
   | refine LeO.ite ?_ ?_
   | refine LeO.bind ?_ (fun _=>?_)
theorem spec_classNamed.mono : ∀ a0 a1 k,LeO (spec_classNamed.f k a0 a1) (spec_classNamed.f (k + 1) a0 a1):=by
 intro a0 a1 k
 have ih0:=spec_classNamed.mono_l k
 unfold spec_classNamed.f
 repeat' first
   | (with_reducible exact ih0 _ _ _)
   | (with_reducible exact LeO.refl _)
   | (with_reducible exact LeO.none _)
   | (with_reducible refine LeO.ite ?_ ?_)
   | (with_reducible refine LeO.bind ?_ (fun _=>?_))
   | exact ih0 _ _ _
   | exact LeO.none _
   | refine LeO.ite ?_ ?_
   | refine LeO.bind ?_ (fun _=>?_)
set_option maxHeartbeats 8000000 in
set_option maxRecDepth 100000 in
theorem spec_classNamed.calls (k : Nat) (A0 : Option Addr) (c0 : Nat) (l0 : List (S87)) (a1 : ByteArray) (r : Int) (w : World) (hr0 : Kd.C k87 w A0 l0.length l0) (hc0 : l0.length ≤ c0) (h : spec_classNamed.f k l0 a1 = some r) :
  Calls Try.prog 84 #[.slice A0 l0.length c0,.string a1] w fun e w'=>e = .returned (.int .i64 r) ∧ Drawn0 w w':=by
 have HR0:=a0_ hr0
 have HC0:=a0_ hc0
 clear hr0 hc0
 have H : (spec_classNamed.l0 k l0 a1 0) = some r:=h
 clear h
 have H':=a0_ H
 clear H
 go_enter Try.func84,Try.ntmps84
 go_wp2
 go_loopg [5] k (fun kq v5 w'=>∃ (x5_1 : Int),v5 = .int .i64 x5_1 ∧ Aside0 (spec_classNamed.l0 kq l0 a1 x5_1 = some r) ∧ Aside0 (kq ≤ k) ∧ Drawn0 w w')
 case atStart=>exact ⟨(0),(by first | rfl | (simp;done) | (simp [*];done)),H',⟨Nat.le_refl _⟩,by repeat (first | exact Drawn0.refl _ | apply Drawn0.step)⟩
 case round =>
  clear H'
  try clear p2
  obtain ⟨x5_1,rfl,HA,HK1,⟨m1,rfl⟩⟩:=hrel
  cases gk with
  | zero=>exact absurd HA.out (by simp [spec_classNamed.l0])
  | succ k1 =>
   have H:=HA.out
   clear HA
   simp only [spec_classNamed.l0] at H
   by_cases c3 : x5_1 < (l0.length : Int)
   ·rw [if_pos c3] at H
    have c3b0 : decide (x5_1 < (l0.length : Int)) = true:=decide_eq_true c3
    clear c3
    by_cases c4 : 0 ≤ x5_1
    ·rw [if_pos c4] at H
     have c4b0 : decide (0 ≤ x5_1) = true:=decide_eq_true c4
     clear c4
     by_cases c5 : ((rd_T87 l0 x5_1).f0).toList = a1.toList
     ·rw [if_pos c5] at H
      have c5b0 : (((rd_T87 l0 x5_1).f0).toList == a1.toList) = true:=beq_iff_eq.mpr c5
      have c5b1 : (((rd_T87 l0 x5_1).f0).toList != a1.toList) = false:=bne_eq_false_iff_eq.mpr c5
      clear c5
      obtain rfl:=Option.some.inj H
      have p1 : 0 ≤ (x5_1 : Int):=of_decide_eq_true (by first | (with_reducible assumption) | assumption)
      have q1 : x5_1 < (l0.length : Int):=of_decide_eq_true (by first | (with_reducible assumption) | assumption)
      obtain ⟨ad1,e1,hx1_0,hx1_1⟩:=at_T87 HR0.out x5_1 p1 q1
      cases e1
      replace p1:=eq_true p1
      replace q1:=eq_true q1
      go_wp2
      go_ret
      exact ⟨by first | rfl | (simp;done) | (simp [*];done),by repeat (first | exact Drawn0.refl _ | apply Drawn0.step)⟩
     ·rw [if_neg c5] at H
      have c5b0 : (((rd_T87 l0 x5_1).f0).toList == a1.toList) = false:=beq_eq_false_iff_ne.mpr c5
      have c5b1 : (((rd_T87 l0 x5_1).f0).toList != a1.toList) = true:=bne_iff_ne.mpr c5
      have H':=a0_ H
      clear H
      have p1 : 0 ≤ (x5_1 : Int):=of_decide_eq_true (by first | (with_reducible assumption) | assumption)
      have q1 : x5_1 < (l0.length : Int):=of_decide_eq_true (by first | (with_reducible assumption) | assumption)
      obtain ⟨ad1,e1,hx1_0,hx1_1⟩:=at_T87 HR0.out x5_1 p1 q1
      cases e1
      replace p1:=eq_true p1
      replace q1:=eq_true q1
      go_wp2
      go_roundg k1
      case measure=>have:=HK1.out;omega
      case rel=>exact ⟨(wrap64 (x5_1 + 1)),(by first | rfl | (simp;done) | (simp [*];done)),H',⟨by have:=HK1.out;omega⟩,by repeat (first | exact Drawn0.refl _ | apply Drawn0.step)⟩
    ·rw [if_neg c4] at H
     exact absurd H (by simp)
   ·rw [if_neg c3] at H
    have c3b0 : decide (x5_1 < (l0.length : Int)) = false:=decide_eq_false c3
    clear c3
    obtain rfl:=Option.some.inj H
    go_wp2
    go_ret
    exact ⟨by first | rfl | (simp;done) | (simp [*];done),by repeat (first | exact Drawn0.refl _ | apply Drawn0.step)⟩
theorem spec_classNamed_l0 (t : List Cls) (n : ByteArray) (hs : t.length ≤ 9223372036854775807) (d : Nat) : ∀ (k : Nat) (i : Nat),i ≤ t.length → t.length - i = d → d < k → (∀ j (hj : j < t.length),j < i → (t[j].f0.toList == n.toList) = false) → spec_classNamed.l0 k t n (i : Int) = some (named t n):=by
 induction d with
 | zero =>
  intro k i hi hd hk hA
  obtain ⟨k,rfl⟩ : ∃ m,k = m + 1:=⟨k - 1,by omega⟩
  simp only [spec_classNamed.l0]
  rw [if_neg (show ¬ (i : Int) < (t.length : Int) by omega)]
  unfold named
  rw [idxP_miss _ t (fun j hj=>hA j hj (by omega))]
 | succ d ih =>
  intro k i hi hd hk hA
  obtain ⟨k,rfl⟩ : ∃ m,k = m + 1:=⟨k - 1,by omega⟩
  have hlt : i < t.length:=by omega
  simp only [spec_classNamed.l0]
  have hrd : rd_T87 t (i : Int) = t[i]:=by simp [rd_T87,hlt]
  rw [if_pos (show (i : Int) < (t.length : Int) by omega),if_pos (show (0 : Int) ≤ (i : Int) by omega),hrd]
  by_cases h1 : t[i].f0.toList = n.toList
  ·rw [if_pos h1]
   unfold named
   rw [idxP_hit (fun x : Cls=>x.f0.toList == n.toList) t i hlt (beq_iff_eq.2 h1) hA]
  ·rw [if_neg h1,wrap_succ (n:=t.length) (by omega) (by omega) (by omega)]
   rw [show ((i : Int) + 1) = ((i + 1 : Nat) : Int) by omega]
   refine ih k (i + 1) (by omega) (by omega) (by omega) (fun j hj hji=>?_)
   by_cases e : j = i
   ·subst e;exact beq_eq_false_iff_ne.2 h1
   ·exact hA j hj (by omega)
theorem spec_classNamed_ev (t : List Cls) (n : ByteArray) (hs : t.length ≤ 9223372036854775807) : spec_classNamed.f (t.length + 1) t n = some (named t n):=by
 unfold spec_classNamed.f
 exact spec_classNamed_l0 t n hs t.length (t.length + 1) 0 (by omega) (by omega) (by omega) (fun j _ hj=>absurd hj (Nat.not_lt_zero _))
end Go.Proofs.Ytmiholmfbjalfaa.P
namespace Go.Proofs.Ytmiholmfbjalfaa.P
open Go.RowKit Go.Proofs.YtmiholmfbjalfaaW.PrintWords Go.Proofs.YtmiholmfbjalfaaW.PrintLast Go.Proofs.YtmiholmfbjalfaaW.PrintMore
attribute [local go_sem] max2_int min2_int max_two min_two max_three min_three max_four min_four
set_option linter.unusedVariables false
set_option linter.unusedSimpArgs false
theorem named_ahead (t : List Cls) (i : Nat) (hi : i < t.length) : (named (t.take i) t[i].f0 ≥ 0) ↔ ¬ named t t[i].f0 = (i : Int):=by
 have hself : (t[i].f0.toList == t[i].f0.toList) = true:=beq_self_eq_true _
 have hd:=idxP_nonneg (fun x : Cls=>x.f0.toList == t[i].f0.toList) (t.take i)
 unfold named
 by_cases hA : ∀ j (hj : j < t.length),j < i → (t[j].f0.toList == t[i].f0.toList) = false
 ·have h1 : idxP (fun x : Cls=>x.f0.toList == t[i].f0.toList) t = (i : Int):=idxP_hit _ t i hi hself hA
  have h2 : (t.take i).any (fun x : Cls=>x.f0.toList == t[i].f0.toList) = false:=by
   rw [List.any_eq_false]
   intro x hx
   obtain ⟨j,hj,rfl⟩:=List.getElem_of_mem hx
   have hj2 : j < i ∧ j < t.length:=by simp at hj;omega
   rw [List.getElem_take]
   simp [hA j hj2.2 hj2.1]
  rw [h2,decide_eq_false_iff_not] at hd
  constructor
  ·intro h;exact absurd h hd
  ·intro h;exact absurd h1 h
 ·have hex : ∃ j,∃ hj : j < t.length,j < i ∧ (t[j].f0.toList == t[i].f0.toList) = true:=by
   apply Classical.byContradiction
   intro hn
   apply hA
   intro j hj hji
   cases hb : (t[j].f0.toList == t[i].f0.toList) with
   | false=>rfl
   | true=>exact absurd ⟨j,hj,hji,hb⟩ hn
  obtain ⟨j,hj,hji,hb⟩:=hex
  have h2 : (t.take i).any (fun x : Cls=>x.f0.toList == t[i].f0.toList) = true:=by
   rw [List.any_eq_true]
   exact ⟨t[j],List.mem_take_iff_getElem.2 ⟨j,by omega,rfl⟩,hb⟩
  rw [h2,decide_eq_true_eq] at hd
  constructor
  ·intro _ h
   unfold idxP at h
   cases hf : t.findIdx? (fun x : Cls=>x.f0.toList == t[i].f0.toList) with
   | none=>rw [hf] at h;simp at h
   | some m =>
    rw [hf] at h
    have hm : m = i:=by have h' : (m : Int) = (i : Int):=h;omega
    subst hm
    rw [List.findIdx?_eq_some_iff_getElem] at hf
    obtain ⟨_,_,hf⟩:=hf
    exact absurd hb (by simpa using hf j hji)
  ·intro _;exact hd
def spec_validTree.f (l0_0 : List (S87)) : Option Bool:=if smT l0_0 = true then some (vT l0_0) else none
set_option maxHeartbeats 4000000 in
set_option maxRecDepth 100000 in
theorem spec_validTree.calls (A0_0 : Option Addr) (c0_0 : Nat) (l0_0 : List (S87)) (r : Bool) (w : World) (hr0_0 : Kd.C k87 w A0_0 l0_0.length l0_0) (hc0_0 : l0_0.length ≤ c0_0) (h : spec_validTree.f l0_0 = some r) :
  Calls Try.prog 74 #[.agg #[.slice A0_0 l0_0.length c0_0]] w fun e w'=>e = .returned (.bool r) ∧ Below w.heap.size w w':=by
 have hu31:=Try.underlying25
 have hsm : smT l0_0 = true:=by
  apply Classical.byContradiction
  intro hn
  rw [spec_validTree.f,if_neg hn] at h
  cases h
 rw [spec_validTree.f,if_pos hsm] at h
 have HRr:=a0_ (Option.some.inj h)
 have HSM:=a0_ hsm
 have HR:=a0_ hr0_0
 have hmax : l0_0.length ≤ 9223372036854775807:=hr0_0.2.1
 clear h hsm hr0_0
 go_enter Try.func74,Try.ntmps74
 go_wp2
 go_loopg [3] l0_0.length (fun gg s3 wr=>∃ kk : Nat,kk ≤ l0_0.length ∧ l0_0.length - kk ≤ gg ∧ s3 = .int .i64 kk ∧ Aside0 (Below w.heap.size w wr) ∧ Aside0 (wr.heap[w.heap.size]? = some (.cells #[.slice A0_0 l0_0.length c0_0] 25 (0,0))) ∧ Aside0 (∀ j,j < kk → okCls l0_0 j (l0_0.getD j z87) = true))
 case atStart=>exact ⟨0,Nat.zero_le _,by omega,rfl,⟨below1 w _⟩,⟨heap_new1 w _⟩,⟨fun j hj=>absurd hj (Nat.not_lt_zero _)⟩⟩
 case round =>
  obtain ⟨kk,hkk,hg,rfl,BW,BK,HA⟩:=hrel
  have hcz : wr.cell? ⟨w.heap.size,0,none⟩ = some (.slice A0_0 l0_0.length c0_0):=(blk_cell BK.out 0).trans rfl
  by_cases hlt : kk < l0_0.length
  ·have hltz : (kk : Int) < (l0_0.length : Int):=by omega
   obtain ⟨ad,ea,hx0,hx1⟩:=at_T87 HR.out (kk : Int) (by omega) (by omega)
   cases ea
   have hrd : rd_T87 l0_0 (kk : Int) = l0_0[kk]:=by simp [rd_T87,hlt]
   rw [hrd] at hx0 hx1
   rw [Int.toNat_natCast] at hx0 hx1
   replace hx0:=(BW.out.cell (World.block_lt_of_cell? w _ hx0)).trans hx0
   replace hx1:=(BW.out.cell (World.block_lt_of_cell? w _ hx1)).trans hx1
   clear hrd
   generalize hy : l0_0[kk] = y at hx0 hx1
   have B:=a0_ hy
   clear hy
   go_upto_region 5 with (fail)
   have hW1:=a0_ (below_alloc BW.out (.cells #[.string y.f0,.int .i64 y.f1] 87))
   have hW2:=a0_ (blk_alloc BK.out (.cells #[.string y.f0,.int .i64 y.f1] 87))
   have hW3:=(blk_cell hW2.out 0).trans rfl
   have hW4:=(blk_cell (heap_new1 wr (.cells #[.string y.f0,.int .i64 y.f1] 87)) 0).trans rfl
   have hW5:=(blk_cell (heap_new1 wr (.cells #[.string y.f0,.int .i64 y.f1] 87)) 1).trans rfl
   clear hcz hx0 hx1 BW BK
   generalize wr.alloc (.cells #[.string y.f0,.int .i64 y.f1] 87) = W1 at hW1 hW2 hW3 hW4 hW5 ⊢
   generalize wr.heap.size = gb at hW4 hW5 ⊢
   have hy1 : y.f0.size ≤ 9223372036854775806:=by rw [← B.out];exact smT_at HSM.out kk hlt
   have A1:=a0_ (spec_validName_ev y.f0 (by omega))
   have hlen : (l0_0.take kk).length = kk:=by simp;omega
   have hcn0:=fun (W : World) (hW : Below w.heap.size w W)=>spec_classNamed.calls _ (some ad) c0_0 (l0_0.take kk) y.f0 _ W (by
    have h1:=Kd.C_take (Kd.C_below HR.out hW) (show kk ≤ l0_0.length by omega)
    exact h1) (by rw [hlen];omega) (spec_classNamed_ev (l0_0.take kk) y.f0 (by rw [hlen];omega))
   rw [hlen] at hcn0
   have hahead:=named_ahead l0_0 kk hlt
   rw [B.out] at hahead
   have hok : okCls l0_0 kk (l0_0.getD kk z87) = okCls l0_0 kk y:=by
    rw [← B.out];simp [List.getD,hlt]
   have hdef : okCls l0_0 kk y = (okName y.f0 && (decide (named l0_0 y.f0 = (kk : Int)) && (if kk = 0 then decide (y.f1 = -1) else decide (0 ≤ y.f1) && decide (y.f1 ≤ (kk : Int) - 1)))):=rfl
   generalize hnn : named (l0_0.take kk) y.f0 = nn at hcn0 hahead
   have HCN:=a0_ hcn0
   have HAH:=a0_ hahead
   have HOK:=a0_ hok
   have HDF:=a0_ hdef
   clear hcn0 hahead hok hdef hnn hlen hy1
   have hcut : ∀ W : World,(Instr.slice 23 (.slice (some ad) l0_0.length c0_0) none (some (.int .i64 (kk : Int))) none).run Try.prog W = .ok (.slice (some ad) kk c0_0) W:=by
    obtain ⟨i0,hi0,_,hsz,_⟩:=info_parts info87
    have h1:=cut_to (P:=Try.prog) 23 87 .i64 Try.underlying23 hi0 (some ad) l0_0.length c0_0 (kk : Int) (by omega) (by omega) hc0_0
    rw [Int.toNat_natCast] at h1
    exact h1
   go_cut [51] (fun v51 wc=>v51 = .bool (!okCls l0_0 kk y) ∧ Aside0 (Below w.heap.size w wc) ∧ Aside0 (wc.heap[w.heap.size]? = some (.cells #[.slice (some ad) l0_0.length c0_0] 25 (0,0))))
   case first =>
    have hw1 : IntKind.i64.wrap ((kk : Int) - 1) = (kk : Int) - 1:=by rw [IntKind.wrap_i64];omega
    have A2:=a0_ (show spec_inRange.f y.f1 0 ((kk : Int) - 1) = some (decide (0 ≤ y.f1) && decide (y.f1 ≤ (kk : Int) - 1)) by
     unfold spec_inRange.f
     by_cases h0 : 0 ≤ y.f1
     ·rw [if_pos h0];simp [h0]
     ·rw [if_neg h0];simp [h0])
    cases hb1 : okName y.f0 with
    | false =>
     rw [hb1] at A1
     have BV : okCls l0_0 kk y = false:=by rw [HDF.out,hb1];rfl
     clear HDF HAH HOK
     go_quiet (first
     | (go_at_call 83;(with_reducible refine (spec_validName.calls _ y.f0 _ _ A1.out).mono ?_);rintro e w' ⟨rfl,⟨nd,rfl⟩⟩;exact ⟨rfl,_,World.drewN_drewN _ _ _⟩)
     | (go_at_call 84;(with_reducible refine (HCN.out _ (pw_below_drewN hW1.out _)).mono ?_);rintro e w' ⟨rfl,⟨nd,rfl⟩⟩;exact ⟨rfl,_,World.drewN_drewN _ _ _⟩)
     | (go_at_call 71;(with_reducible refine (spec_inRange.calls y.f1 0 ((kk : Int) - 1) _ _ A2.out).mono ?_);rintro e w' ⟨rfl,⟨nd,rfl⟩⟩;exact ⟨rfl,_,World.drewN_drewN _ _ _⟩))
     go_wp2
     go_meet
     case rel=>exact ⟨by (rw [BV]);first | rfl | (simp [*];done),⟨pw_below_drewN hW1.out _⟩,⟨blk_drewN hW2.out _⟩⟩
    | true =>
     rw [hb1] at A1
     by_cases hb2 : nn ≥ 0
     ·have BV : okCls l0_0 kk y = false:=by rw [HDF.out,hb1,decide_eq_false (HAH.out.1 hb2)];rfl
      have d2 : decide (0 ≤ nn) = true:=decide_eq_true hb2
      clear HDF HAH HOK hb2
      go_quiet (first
     | (go_at_call 83;(with_reducible refine (spec_validName.calls _ y.f0 _ _ A1.out).mono ?_);rintro e w' ⟨rfl,⟨nd,rfl⟩⟩;exact ⟨rfl,_,World.drewN_drewN _ _ _⟩)
     | (go_at_call 84;(with_reducible refine (HCN.out _ (pw_below_drewN hW1.out _)).mono ?_);rintro e w' ⟨rfl,⟨nd,rfl⟩⟩;exact ⟨rfl,_,World.drewN_drewN _ _ _⟩)
     | (go_at_call 71;(with_reducible refine (spec_inRange.calls y.f1 0 ((kk : Int) - 1) _ _ A2.out).mono ?_);rintro e w' ⟨rfl,⟨nd,rfl⟩⟩;exact ⟨rfl,_,World.drewN_drewN _ _ _⟩))
      go_wp2
      go_meet
      case rel=>exact ⟨by (rw [BV]);first | rfl | (simp [*];done),⟨pw_below_drewN hW1.out _⟩,⟨blk_drewN hW2.out _⟩⟩
     ·have hnm : named l0_0 y.f0 = (kk : Int):=Classical.byContradiction fun hn=>hb2 (HAH.out.2 hn)
      have d2 : decide (0 ≤ nn) = false:=decide_eq_false hb2
      have BV0 : okCls l0_0 kk y = (if kk = 0 then decide (y.f1 = -1) else decide (0 ≤ y.f1) && decide (y.f1 ≤ (kk : Int) - 1)):=by rw [HDF.out,hb1,decide_eq_true hnm];rfl
      clear HDF HAH HOK hb2 hnm
      by_cases hk0 : kk = 0
      ·have BV : okCls l0_0 kk y = decide (y.f1 = -1):=by rw [BV0,if_pos hk0]
       have e0 : ((kk : Int) == 0) = true:=beq_iff_eq.2 (by omega)
       have e1 : decide (0 < (kk : Int)) = false:=decide_eq_false (by omega)
       have e1n : decide (0 < kk) = false:=decide_eq_false (by omega)
       clear BV0
       by_cases hp : y.f1 = -1
       ·have e2 : (y.f1 != -1) = false:=by rw [hp];rfl
        have e3 : (y.f1 == -1) = true:=by rw [hp];rfl
        rw [decide_eq_true hp] at BV
        clear hp hk0
        go_quiet (first
     | (go_at_call 83;(with_reducible refine (spec_validName.calls _ y.f0 _ _ A1.out).mono ?_);rintro e w' ⟨rfl,⟨nd,rfl⟩⟩;exact ⟨rfl,_,World.drewN_drewN _ _ _⟩)
     | (go_at_call 84;(with_reducible refine (HCN.out _ (pw_below_drewN hW1.out _)).mono ?_);rintro e w' ⟨rfl,⟨nd,rfl⟩⟩;exact ⟨rfl,_,World.drewN_drewN _ _ _⟩)
     | (go_at_call 71;(with_reducible refine (spec_inRange.calls y.f1 0 ((kk : Int) - 1) _ _ A2.out).mono ?_);rintro e w' ⟨rfl,⟨nd,rfl⟩⟩;exact ⟨rfl,_,World.drewN_drewN _ _ _⟩))
        go_wp2
        go_meet
        case rel=>exact ⟨by (rw [BV]);first | rfl | (simp [*];done),⟨pw_below_drewN hW1.out _⟩,⟨blk_drewN hW2.out _⟩⟩
       ·have e2 : (y.f1 != -1) = true:=bne_iff_ne.2 hp
        have e3 : (y.f1 == -1) = false:=beq_eq_false_iff_ne.2 hp
        rw [decide_eq_false hp] at BV
        clear hp hk0
        go_quiet (first
     | (go_at_call 83;(with_reducible refine (spec_validName.calls _ y.f0 _ _ A1.out).mono ?_);rintro e w' ⟨rfl,⟨nd,rfl⟩⟩;exact ⟨rfl,_,World.drewN_drewN _ _ _⟩)
     | (go_at_call 84;(with_reducible refine (HCN.out _ (pw_below_drewN hW1.out _)).mono ?_);rintro e w' ⟨rfl,⟨nd,rfl⟩⟩;exact ⟨rfl,_,World.drewN_drewN _ _ _⟩)
     | (go_at_call 71;(with_reducible refine (spec_inRange.calls y.f1 0 ((kk : Int) - 1) _ _ A2.out).mono ?_);rintro e w' ⟨rfl,⟨nd,rfl⟩⟩;exact ⟨rfl,_,World.drewN_drewN _ _ _⟩))
        go_wp2
        go_meet
        case rel=>exact ⟨by (rw [BV]);first | rfl | (simp [*];done),⟨pw_below_drewN hW1.out _⟩,⟨blk_drewN hW2.out _⟩⟩
      ·have BV : okCls l0_0 kk y = (decide (0 ≤ y.f1) && decide (y.f1 ≤ (kk : Int) - 1)):=by rw [BV0,if_neg hk0]
       have e0 : ((kk : Int) == 0) = false:=beq_eq_false_iff_ne.2 (by omega)
       have e1 : decide (0 < (kk : Int)) = true:=decide_eq_true (by omega)
       have e1n : decide (0 < kk) = true:=decide_eq_true (by omega)
       rw [← BV] at A2
       clear BV BV0 hk0
       cases BV : okCls l0_0 kk y with
       | false =>
        rw [BV] at A2
        go_quiet (first
     | (go_at_call 83;(with_reducible refine (spec_validName.calls _ y.f0 _ _ A1.out).mono ?_);rintro e w' ⟨rfl,⟨nd,rfl⟩⟩;exact ⟨rfl,_,World.drewN_drewN _ _ _⟩)
     | (go_at_call 84;(with_reducible refine (HCN.out _ (pw_below_drewN hW1.out _)).mono ?_);rintro e w' ⟨rfl,⟨nd,rfl⟩⟩;exact ⟨rfl,_,World.drewN_drewN _ _ _⟩)
     | (go_at_call 71;(with_reducible refine (spec_inRange.calls y.f1 0 ((kk : Int) - 1) _ _ A2.out).mono ?_);rintro e w' ⟨rfl,⟨nd,rfl⟩⟩;exact ⟨rfl,_,World.drewN_drewN _ _ _⟩))
        go_wp2
        go_meet
        case rel=>exact ⟨by (rw [BV]);first | rfl | (simp [*];done),⟨pw_below_drewN hW1.out _⟩,⟨blk_drewN hW2.out _⟩⟩
       | true =>
        rw [BV] at A2
        go_quiet (first
     | (go_at_call 83;(with_reducible refine (spec_validName.calls _ y.f0 _ _ A1.out).mono ?_);rintro e w' ⟨rfl,⟨nd,rfl⟩⟩;exact ⟨rfl,_,World.drewN_drewN _ _ _⟩)
     | (go_at_call 84;(with_reducible refine (HCN.out _ (pw_below_drewN hW1.out _)).mono ?_);rintro e w' ⟨rfl,⟨nd,rfl⟩⟩;exact ⟨rfl,_,World.drewN_drewN _ _ _⟩)
     | (go_at_call 71;(with_reducible refine (spec_inRange.calls y.f1 0 ((kk : Int) - 1) _ _ A2.out).mono ?_);rintro e w' ⟨rfl,⟨nd,rfl⟩⟩;exact ⟨rfl,_,World.drewN_drewN _ _ _⟩))
        go_wp2
        go_meet
        case rel=>exact ⟨by (rw [BV]);first | rfl | (simp [*];done),⟨pw_below_drewN hW1.out _⟩,⟨blk_drewN hW2.out _⟩⟩
   case rest =>
    obtain ⟨rfl,hW,hK⟩:=hcut
    have hb:=HOK.out
    cases BV : okCls l0_0 kk y with
    | false =>
     go_wp2
     go_ret
     refine ⟨?_,hW.out⟩
     rw [← HRr.out]
     have : vT l0_0 = false:=by
      cases hv : vT l0_0 with
      | false=>rfl
      | true=>have:=vT_at hv kk hlt;rw [HOK.out,BV] at this;cases this
     rw [this];rfl
    | true =>
     go_wp2
     go_roundg (l0_0.length - (kk + 1))
     case measure=>omega
     case rel =>
      refine ⟨kk + 1,by omega,by omega,by go_num,⟨hW.out⟩,⟨hK.out⟩,⟨fun j hj=>?_⟩⟩
      by_cases e : j = kk
      ·subst e;rw [HOK.out,BV]
      ·exact HA.out j (by omega)
  ·have hltz : ¬ (kk : Int) < (l0_0.length : Int):=by omega
   have : kk = l0_0.length:=by omega
   subst this
   have A3:=a0_ (show spec_inRange.f (l0_0.length : Int) 1 8 = some (vT l0_0) by
    have hall : (List.range l0_0.length).all (fun i=>okCls l0_0 i (l0_0.getD i z87)) = true:=by
     rw [List.all_eq_true];intro i hi;exact HA.out i (by simpa using hi)
    unfold spec_inRange.f vT
    rw [hall]
    by_cases h1 : (1 : Int) ≤ l0_0.length
    ·rw [if_pos h1]
     have h1' : 1 ≤ l0_0.length:=by omega
     by_cases h8 : l0_0.length ≤ 8
     ·simp [h1',h8];omega
     ·simp [h8];omega
    ·rw [if_neg h1]
     have h1' : ¬ 1 ≤ l0_0.length:=by omega
     simp [h1'])
   rw [HRr.out] at A3
   go_wp2_with (go_at_call 71;(with_reducible refine (spec_inRange.calls (l0_0.length : Int) 1 8 _ _ A3.out).mono ?_);rintro e w' ⟨rfl,⟨nd,rfl⟩⟩)
   go_ret
   exact ⟨rfl,pw_below_drewN BW.out _⟩
end Go.Proofs.Ytmiholmfbjalfaa.P
namespace Go.Proofs.Ytmiholmfbjalfaa.P
open Go.RowKit Go.Proofs.YtmiholmfbjalfaaW.PrintWords Go.Proofs.YtmiholmfbjalfaaW.PrintLast Go.Proofs.YtmiholmfbjalfaaW.PrintMore
attribute [local go_sem] max2_int min2_int max_two min_two max_three min_three max_four min_four
set_option linter.unusedVariables false
set_option linter.unusedSimpArgs false
mutual
def spec_validHeap.l0 : Nat → Int → List (S87) → List (S43) → Option (Bool)
 | 0,_,_,_=>none
 | k + 1,x5,x2000,x3000=>if x5 < (x3000.length : Int) then (if 0 ≤ x5 then ((spec_hasClass.f x2000 ((rd_T43 x3000 x5).f0)).bind fun t5=>(if t5 = true then ((spec_inRange.f ((rd_T43 x3000 x5).f1) 0 99).bind fun t6=>(if t6 = true then ((spec_validLinks.f x3000 x5).bind fun t7=>(if t7 = true then (spec_validHeap.l0 k (wrap64 (x5 + 1)) x2000 x3000) else (some false))) else (some false))) else (some false))) else (none)) else (spec_validHeap.l1 k 0 x2000 x3000)
def spec_validHeap.l1 : Nat → Int → List (S87) → List (S43) → Option (Bool)
 | 0,_,_,_=>none
 | k + 1,x7,x2000,x3000=>if x7 < (x3000.length : Int) then ((spec_contexts.f k x3000 x7).bind fun t8=>(if 0 ≤ (wrap64 ((t8.length : Int) - 1)) then (if (wrap64 ((t8.length : Int) - 1)) < (t8.length : Int) then (if 0 ≤ (rd t8 (wrap64 ((t8.length : Int) - 1))) then (if (rd t8 (wrap64 ((t8.length : Int) - 1))) < (x3000.length : Int) then (if ((rd_T43 x3000 (rd t8 (wrap64 ((t8.length : Int) - 1)))).f3) ≥ 0 then (some false) else (spec_validHeap.l1 k (wrap64 (x7 + 1)) x2000 x3000)) else (none)) else (none)) else (none)) else (none))) else ((spec_validTree.f x2000).bind fun t13=>(if t13 = true then (some (decide ((x3000.length : Int) ≤ 24))) else (some false)))
end
def spec_validHeap.f (k : Nat) (l0_0 : List (S87)) (l1_0 : List (S43)) : Option (Bool):=spec_validHeap.l0 k 0 l0_0 l1_0
theorem spec_validHeap.mono_l : ∀ k,(∀ y0 y1 y2,LeO (spec_validHeap.l0 k y0 y1 y2) (spec_validHeap.l0 (k + 1) y0 y1 y2)) ∧ (∀ y0 y1 y2,LeO (spec_validHeap.l1 k y0 y1 y2) (spec_validHeap.l1 (k + 1) y0 y1 y2))
 | 0=>⟨fun _ _ _ r h=>by simp [spec_validHeap.l0] at h,fun _ _ _ r h=>by simp [spec_validHeap.l1] at h⟩
 | k + 1=>by
  obtain ⟨ih0,ih1⟩:=spec_validHeap.mono_l k
  refine ⟨?_,?_⟩
  ·intro y0 y1 y2
   unfold spec_validHeap.l0
   repeat' first
   | (with_reducible exact ih0 _ _ _)
   | (with_reducible exact ih1 _ _ _)
   | (with_reducible exact spec_contexts.mono _ _ _)
   | (with_reducible exact LeO.refl _)
   | (with_reducible exact LeO.none _)
   | (with_reducible refine LeO.ite ?_ ?_)
   | (with_reducible refine LeO.bind ?_ (fun _=>?_))
   | exact ih0 _ _ _
   | exact ih1 _ _ _
   | exact spec_contexts.mono _ _ _
   | exact LeO.none _
   | refine LeO.ite ?_ ?_
   | refine LeO.bind ?_ (fun _=>?_)
  ·intro y0 y1 y2
   unfold spec_validHeap.l1
   repeat' first
   | (with_reducible exact ih0 _ _ _)
   | (with_reducible exact ih1 _ _ _)
   | (with_reducible exact spec_contexts.mono _ _ _)
   | (with_reducible exact LeO.refl _)
   | (with_reducible exact LeO.none _)
   | (with_reducible refine LeO.ite ?_ ?_)
   | (with_reducible refine LeO.bind ?_ (fun _=>?_))
   | exact ih0 _ _ _
   | exact ih1 _ _ _
   | exact spec_contexts.mono _ _ _
   | exact LeO.none _
   | refine LeO.ite ?_ ?_
   | refine LeO.bind ?_ (fun _=>?_)
theorem spec_validHeap.mono : ∀ a0 a1 k,LeO (spec_validHeap.f k a0 a1) (spec_validHeap.f (k + 1) a0 a1):=by
 intro a0 a1 k
 obtain ⟨ih0,ih1⟩:=spec_validHeap.mono_l k
 unfold spec_validHeap.f
 repeat' first
   | (with_reducible exact ih0 _ _ _)
   | (with_reducible exact ih1 _ _ _)
   | (with_reducible exact spec_contexts.mono _ _ _)
   | (with_reducible exact LeO.refl _)
   | (with_reducible exact LeO.none _)
   | (with_reducible refine LeO.ite ?_ ?_)
   | (with_reducible refine LeO.bind ?_ (fun _=>?_))
   | exact ih0 _ _ _
   | exact ih1 _ _ _
   | exact spec_contexts.mono _ _ _
   | exact LeO.none _
   | refine LeO.ite ?_ ?_
   | refine LeO.bind ?_ (fun _=>?_)
set_option maxHeartbeats 8000000 in
set_option maxRecDepth 100000 in
theorem spec_validHeap.calls (k : Nat) (A0_0 : Option Addr) (c0_0 : Nat) (l0_0 : List (S87)) (A1_0 : Option Addr) (c1_0 : Nat) (l1_0 : List (S43)) (r : Bool) (w : World) (hr0_0 : Kd.C k87 w A0_0 l0_0.length l0_0) (hc0_0 : l0_0.length ≤ c0_0) (hr1_0 : Kd.C k43 w A1_0 l1_0.length l1_0) (hc1_0 : l1_0.length ≤ c1_0) (h : spec_validHeap.f k l0_0 l1_0 = some r) :
  Calls Try.prog 46 #[.agg #[.slice A0_0 l0_0.length c0_0],.agg #[.slice A1_0 l1_0.length c1_0]] w fun e w'=>e = .returned (.bool r) ∧ Below w.heap.size w w':=by
 have hu25:=Try.underlying25
 have hu28:=Try.underlying28
 have hu43:=Try.underlying43
 have HR0_0:=a0_ hr0_0
 have HC0_0:=a0_ hc0_0
 clear hr0_0 hc0_0
 have HR1_0:=a0_ hr1_0
 have HC1_0:=a0_ hc1_0
 clear hr1_0 hc1_0
 have HB:=a0_ (Below.refl w.heap.size w)
 have H : (spec_validHeap.l0 k 0 l0_0 l1_0) = some r:=h
 clear h
 have H':=a0_ H
 clear H
 go_enter Try.func46,Try.ntmps46
 go_wp2_with (first | ((with_reducible refine gate_dst (N:=2) rfl ?_);(try (refine gate_guard (by rfl) ?_;dsimp only));refine box_event ?hg (N:=2) ?hd (cs:=#[.slice A0_0 l0_0.length c0_0]) (t:=25) ?hr ?_;(case hd=>rfl);(case hg=>rfl);(case hr=>first | (go_simp;done) | (go_simp;rfl));intro gb1 hg w3 hbox hb;have BK1:=a0_ (hbox);have GW1:=a0_ ((by rw [hg];exact (below_size hbw_) : w.heap.size ≤ gb1));have GE1:=a0_ ((by rw [hg];exact (below_size hbw_) : w.heap.size ≤ gb1));replace HB:=a0_ (below_step hbw_ hb);clear hb hbox hg) | ((with_reducible refine gate_dst (N:=3) rfl ?_);(try (refine gate_guard (by rfl) ?_;dsimp only));refine box_event ?hg (N:=3) ?hd (cs:=#[.slice A1_0 l1_0.length c1_0]) (t:=28) ?hr ?_;(case hd=>rfl);(case hg=>rfl);(case hr=>first | (go_simp;done) | (go_simp;rfl));intro gb2 hg w4 hbox hb;have n0_:=kb_ BK1 hb;have n1_:=a0_ (below_step hbw_ hb);have n2_:=a0_ (hbox);have n3_:=a0_ ((by rw [hg];exact (below_size hbw_) : w.heap.size ≤ gb2));have n4_:=a0_ ((by rw [hg];exact (below_size hbw_) : w.heap.size ≤ gb2));have n5_:=a0_ ((by rw [hg];exact Nat.ne_of_lt (blk_lt (bb_ BK1.out)) : gb1 ≠ gb2));have n6_:=a0_ ((by rw [hg];exact Nat.ne_of_gt (blk_lt (bb_ BK1.out)) : gb2 ≠ gb1));clear BK1 HB;have BK1:=n0_;have HB:=n1_;have BK2:=n2_;have GW2:=n3_;have GE2:=n4_;have NB1_2:=n5_;have NB2_1:=n6_;clear n0_ n1_ n2_ n3_ n4_ n5_ n6_;clear hb hbox hg))
 repeat (go_quiet (first | ((with_reducible refine gate_dst (N:=2) rfl ?_);(try (refine gate_guard (by rfl) ?_;dsimp only));refine box_event ?hg (N:=2) ?hd (cs:=#[.slice A0_0 l0_0.length c0_0]) (t:=25) ?hr ?_;(case hd=>rfl);(case hg=>rfl);(case hr=>first | (go_simp;done) | (go_simp;rfl));intro gb1 hg w3 hbox hb;have BK1:=a0_ (hbox);have GW1:=a0_ ((by rw [hg];exact (below_size hbw_) : w.heap.size ≤ gb1));have GE1:=a0_ ((by rw [hg];exact (below_size hbw_) : w.heap.size ≤ gb1));replace HB:=a0_ (below_step hbw_ hb);clear hb hbox hg) | ((with_reducible refine gate_dst (N:=3) rfl ?_);(try (refine gate_guard (by rfl) ?_;dsimp only));refine box_event ?hg (N:=3) ?hd (cs:=#[.slice A1_0 l1_0.length c1_0]) (t:=28) ?hr ?_;(case hd=>rfl);(case hg=>rfl);(case hr=>first | (go_simp;done) | (go_simp;rfl));intro gb2 hg w4 hbox hb;have n0_:=kb_ BK1 hb;have n1_:=a0_ (below_step hbw_ hb);have n2_:=a0_ (hbox);have n3_:=a0_ ((by rw [hg];exact (below_size hbw_) : w.heap.size ≤ gb2));have n4_:=a0_ ((by rw [hg];exact (below_size hbw_) : w.heap.size ≤ gb2));have n5_:=a0_ ((by rw [hg];exact Nat.ne_of_lt (blk_lt (bb_ BK1.out)) : gb1 ≠ gb2));have n6_:=a0_ ((by rw [hg];exact Nat.ne_of_gt (blk_lt (bb_ BK1.out)) : gb2 ≠ gb1));clear BK1 HB;have BK1:=n0_;have HB:=n1_;have BK2:=n2_;have GW2:=n3_;have GE2:=n4_;have NB1_2:=n5_;have NB2_1:=n6_;clear n0_ n1_ n2_ n3_ n4_ n5_ n6_;clear hb hbox hg));try go_wp2_with (first | ((with_reducible refine gate_dst (N:=2) rfl ?_);(try (refine gate_guard (by rfl) ?_;dsimp only));refine box_event ?hg (N:=2) ?hd (cs:=#[.slice A0_0 l0_0.length c0_0]) (t:=25) ?hr ?_;(case hd=>rfl);(case hg=>rfl);(case hr=>first | (go_simp;done) | (go_simp;rfl));intro gb1 hg w3 hbox hb;have BK1:=a0_ (hbox);have GW1:=a0_ ((by rw [hg];exact (below_size hbw_) : w.heap.size ≤ gb1));have GE1:=a0_ ((by rw [hg];exact (below_size hbw_) : w.heap.size ≤ gb1));replace HB:=a0_ (below_step hbw_ hb);clear hb hbox hg) | ((with_reducible refine gate_dst (N:=3) rfl ?_);(try (refine gate_guard (by rfl) ?_;dsimp only));refine box_event ?hg (N:=3) ?hd (cs:=#[.slice A1_0 l1_0.length c1_0]) (t:=28) ?hr ?_;(case hd=>rfl);(case hg=>rfl);(case hr=>first | (go_simp;done) | (go_simp;rfl));intro gb2 hg w4 hbox hb;have n0_:=kb_ BK1 hb;have n1_:=a0_ (below_step hbw_ hb);have n2_:=a0_ (hbox);have n3_:=a0_ ((by rw [hg];exact (below_size hbw_) : w.heap.size ≤ gb2));have n4_:=a0_ ((by rw [hg];exact (below_size hbw_) : w.heap.size ≤ gb2));have n5_:=a0_ ((by rw [hg];exact Nat.ne_of_lt (blk_lt (bb_ BK1.out)) : gb1 ≠ gb2));have n6_:=a0_ ((by rw [hg];exact Nat.ne_of_gt (blk_lt (bb_ BK1.out)) : gb2 ≠ gb1));clear BK1 HB;have BK1:=n0_;have HB:=n1_;have BK2:=n2_;have GW2:=n3_;have GE2:=n4_;have NB1_2:=n5_;have NB2_1:=n6_;clear n0_ n1_ n2_ n3_ n4_ n5_ n6_;clear hb hbox hg)))
 go_loopg [5] k (fun kq v5 w'=>∃ (x5_1 : Int),v5 = .int .i64 x5_1 ∧ Aside0 (spec_validHeap.l0 kq x5_1 l0_0 l1_0 = some r) ∧ Aside0 (kq ≤ k) ∧ Aside0 (w'.heap[gb1]? = some (.cells #[(.slice A0_0 l0_0.length c0_0)] 25 (0,0))) ∧ Aside0 (w'.heap[gb2]? = some (.cells #[(.slice A1_0 l1_0.length c1_0)] 28 (0,0))) ∧ Aside0 (Below w.heap.size w w'))
 case atStart=>exact ⟨(0),(by first | rfl | (simp;done) | (simp [*];done)),H',⟨Nat.le_refl _⟩,⟨by (with_reducible repeat (first | refine blk_drewN ?_ _ | refine blk_drew ?_ | refine blk_alloc ?_ _));exact BK1.out⟩,⟨by (with_reducible repeat (first | refine blk_drewN ?_ _ | refine blk_drew ?_ | refine blk_alloc ?_ _));exact BK2.out⟩,⟨hbw_⟩⟩
 case round =>
  clear H'
  try clear c1
  try clear p2
  try clear c4
  obtain ⟨x5_1,rfl,HA,HK1,BK1,BK2,HB⟩:=hrel
  cases gk with
  | zero=>exact absurd HA.out (by simp [spec_validHeap.l0])
  | succ k1 =>
   have H:=HA.out
   clear HA
   simp only [spec_validHeap.l0] at H
   by_cases c5 : x5_1 < (l1_0.length : Int)
   ·rw [if_pos c5] at H
    have c5b0 : decide (x5_1 < (l1_0.length : Int)) = true:=decide_eq_true c5
    clear c5
    by_cases c6 : 0 ≤ x5_1
    ·rw [if_pos c6] at H
     have c6b0 : decide (0 ≤ x5_1) = true:=decide_eq_true c6
     clear c6
     replace H:=Option.bind_eq_some_iff.mp H
     obtain ⟨t5,A70,H⟩:=H
     try dsimp only at H
     have A7:=a0_ A70
     clear A70
     by_cases c8 : t5 = true
     ·subst c8
      have H1 : ((spec_inRange.f ((rd_T43 l1_0 x5_1).f1) 0 99).bind fun t6=>(if t6 = true then ((spec_validLinks.f l1_0 x5_1).bind fun t7=>(if t7 = true then (spec_validHeap.l0 k1 (wrap64 (x5_1 + 1)) l0_0 l1_0) else (some false))) else (some false))) = some r:=by rw [if_pos rfl] at H;exact H
      clear H
      have H:=H1
      clear H1
      replace H:=Option.bind_eq_some_iff.mp H
      obtain ⟨t6,A90,H⟩:=H
      try dsimp only at H
      have A9:=a0_ A90
      clear A90
      by_cases c10 : t6 = true
      ·subst c10
       have H1 : ((spec_validLinks.f l1_0 x5_1).bind fun t7=>(if t7 = true then (spec_validHeap.l0 k1 (wrap64 (x5_1 + 1)) l0_0 l1_0) else (some false))) = some r:=by rw [if_pos rfl] at H;exact H
       clear H
       have H:=H1
       clear H1
       replace H:=Option.bind_eq_some_iff.mp H
       obtain ⟨t7,A110,H⟩:=H
       try dsimp only at H
       have A11:=a0_ A110
       clear A110
       by_cases c12 : t7 = true
       ·subst c12
        have H1 : (spec_validHeap.l0 k1 (wrap64 (x5_1 + 1)) l0_0 l1_0) = some r:=by rw [if_pos rfl] at H;exact H
        clear H
        have H:=H1
        clear H1
        have H':=a0_ H
        clear H
        have hnb13:=NB2_1.out
        have hnc13:=NB1_2.out
        have hcz14_0 : wr.cell? ⟨gb2,0,none⟩ = some (.slice A1_0 l1_0.length c1_0):=(blk_cell BK2.out 0).trans rfl
        have hfz14_0:=blk_frozen BK2.out 0
        have p3 : 0 ≤ (x5_1 : Int):=of_decide_eq_true (by first | (with_reducible assumption) | assumption)
        have q3 : x5_1 < (l1_0.length : Int):=of_decide_eq_true (by first | (with_reducible assumption) | assumption)
        obtain ⟨ad3,e3,hx3_0,hx3_1,hx3_2,hx3_3,hx3_4⟩:=at_T43 HR1_0.out x5_1 p3 q3
        cases e3
        replace hx3_0:=(HB.out.cell (World.block_lt_of_cell? w _ hx3_0)).trans hx3_0
        replace hx3_1:=(HB.out.cell (World.block_lt_of_cell? w _ hx3_1)).trans hx3_1
        replace hx3_2:=(HB.out.cell (World.block_lt_of_cell? w _ hx3_2)).trans hx3_2
        replace hx3_3:=(HB.out.cell (World.block_lt_of_cell? w _ hx3_3)).trans hx3_3
        replace hx3_4:=(HB.out.cell (World.block_lt_of_cell? w _ hx3_4)).trans hx3_4
        replace p3:=eq_true p3
        replace q3:=eq_true q3
        go_wp2_with (first | ((with_reducible refine gate_dst (N:=6) rfl ?_);(try (refine gate_guard (by rfl) ?_;dsimp only));refine box_event ?hg (N:=6) ?hd (cs:=#[.int .i64 0,.int .i64 0,.int .i64 0,.int .i64 0,.bool false]) (t:=43) ?hr ?_;(case hd=>rfl);(case hg=>rfl);(case hr=>first | (go_simp;done) | (go_simp;rfl));intro gb4 hg w15 hbox hb;have n0_:=kb_ BK1 hb;have n1_:=kb_ BK2 hb;have n2_:=a0_ (below_step hbw_ hb);have n3_:=a0_ (hbox);have n4_:=a0_ ((by rw [hg];exact (below_size hbw_) : w.heap.size ≤ gb4));have n5_:=a0_ ((by rw [hg];exact (below_size hbw_) : w.heap.size ≤ gb4));have n6_:=a0_ ((by rw [hg];exact Nat.ne_of_lt (blk_lt (bb_ BK1.out)) : gb1 ≠ gb4));have n7_:=a0_ ((by rw [hg];exact Nat.ne_of_gt (blk_lt (bb_ BK1.out)) : gb4 ≠ gb1));have n8_:=a0_ ((by rw [hg];exact Nat.ne_of_lt (blk_lt (bb_ BK2.out)) : gb2 ≠ gb4));have n9_:=a0_ ((by rw [hg];exact Nat.ne_of_gt (blk_lt (bb_ BK2.out)) : gb4 ≠ gb2));clear BK1 BK2 HB;have BK1:=n0_;have BK2:=n1_;have HB:=n2_;have BK4:=n3_;have GW4:=n4_;have GE4:=n5_;have NB1_4:=n6_;have NB4_1:=n7_;have NB2_4:=n8_;have NB4_2:=n9_;clear n0_ n1_ n2_ n3_ n4_ n5_ n6_ n7_ n8_ n9_;clear hb hbox hg;have hnb16:=NB4_1.out;have hnc16:=NB1_4.out;have hnb17:=NB4_2.out;have hnc17:=NB2_4.out;have hcz18_0 : w15.cell? ⟨gb4,0,none⟩ = some (.int .i64 0):=(blk_cell BK4.out 0).trans rfl;have hcz18_1 : w15.cell? ⟨gb4,1,none⟩ = some (.int .i64 0):=(blk_cell BK4.out 1).trans rfl;have hcz18_2 : w15.cell? ⟨gb4,2,none⟩ = some (.int .i64 0):=(blk_cell BK4.out 2).trans rfl;have hcz18_3 : w15.cell? ⟨gb4,3,none⟩ = some (.int .i64 0):=(blk_cell BK4.out 3).trans rfl;have hcz18_4 : w15.cell? ⟨gb4,4,none⟩ = some (.bool false):=(blk_cell BK4.out 4).trans rfl;have hfz18_0:=blk_frozen BK4.out 0;have hfz18_1:=blk_frozen BK4.out 1;have hfz18_2:=blk_frozen BK4.out 2;have hfz18_3:=blk_frozen BK4.out 3;have hfz18_4:=blk_frozen BK4.out 4;have hcz19_0 : w15.cell? ⟨gb1,0,none⟩ = some (.slice A0_0 l0_0.length c0_0):=(blk_cell BK1.out 0).trans rfl;have hfz19_0:=blk_frozen BK1.out 0) | (go_at_call 70;(with_reducible refine (spec_hasClass.calls _ _ l0_0 ((rd_T43 l1_0 x5_1).f0) true _ ?side1 ?side2 A7.out).mono ?_);(case side1=>exact Kd.C_below HR0_0.out hbw_);(case side2=>exact HC0_0.out);rintro e w20 ⟨rfl,hb⟩;replace BK1:=a0_ (blk_below (g:=gb1) (o:=.cells #[.slice A0_0 l0_0.length c0_0] 25 (0,0)) (bff_ BK1.out) hb);replace BK2:=a0_ (blk_below (g:=gb2) (o:=.cells #[.slice (some ad3) l1_0.length c1_0] 28 (0,0)) (bff_ BK2.out) hb);replace BK4:=a0_ (blk_below (g:=gb4) (o:=.cells #[.int .i64 ((rd_T43 l1_0 x5_1).f0),.int .i64 ((rd_T43 l1_0 x5_1).f1),.int .i64 ((rd_T43 l1_0 x5_1).f2),.int .i64 ((rd_T43 l1_0 x5_1).f3),.bool ((rd_T43 l1_0 x5_1).f4)] 43 (0,0)) (by (with_reducible repeat (first | refine blk_drewN ?_ _ | refine blk_drew ?_ | refine blk_alloc ?_ _));refine blk_put (cs:=#[.int .i64 ((rd_T43 l1_0 x5_1).f0),.int .i64 ((rd_T43 l1_0 x5_1).f1),.int .i64 ((rd_T43 l1_0 x5_1).f2),.int .i64 ((rd_T43 l1_0 x5_1).f3),.bool false]) ?_ 4 _ rfl;(with_reducible repeat (first | refine blk_drewN ?_ _ | refine blk_drew ?_ | refine blk_alloc ?_ _));refine blk_put (cs:=#[.int .i64 ((rd_T43 l1_0 x5_1).f0),.int .i64 ((rd_T43 l1_0 x5_1).f1),.int .i64 ((rd_T43 l1_0 x5_1).f2),.int .i64 0,.bool false]) ?_ 3 _ rfl;(with_reducible repeat (first | refine blk_drewN ?_ _ | refine blk_drew ?_ | refine blk_alloc ?_ _));refine blk_put (cs:=#[.int .i64 ((rd_T43 l1_0 x5_1).f0),.int .i64 ((rd_T43 l1_0 x5_1).f1),.int .i64 0,.int .i64 0,.bool false]) ?_ 2 _ rfl;(with_reducible repeat (first | refine blk_drewN ?_ _ | refine blk_drew ?_ | refine blk_alloc ?_ _));refine blk_put (cs:=#[.int .i64 ((rd_T43 l1_0 x5_1).f0),.int .i64 0,.int .i64 0,.int .i64 0,.bool false]) ?_ 1 _ rfl;(with_reducible repeat (first | refine blk_drewN ?_ _ | refine blk_drew ?_ | refine blk_alloc ?_ _));refine blk_put (cs:=#[.int .i64 0,.int .i64 0,.int .i64 0,.int .i64 0,.bool false]) ?_ 0 _ rfl;(with_reducible repeat (first | refine blk_drewN ?_ _ | refine blk_drew ?_ | refine blk_alloc ?_ _));exact BK4.out) hb);replace HB:=a0_ (below_step hbw_ hb);(try clear hb);have hcz21_0 : w20.cell? ⟨gb4,0,none⟩ = some (.int .i64 ((rd_T43 l1_0 x5_1).f0)):=(blk_cell BK4.out 0).trans rfl;have hcz21_1 : w20.cell? ⟨gb4,1,none⟩ = some (.int .i64 ((rd_T43 l1_0 x5_1).f1)):=(blk_cell BK4.out 1).trans rfl;have hcz21_2 : w20.cell? ⟨gb4,2,none⟩ = some (.int .i64 ((rd_T43 l1_0 x5_1).f2)):=(blk_cell BK4.out 2).trans rfl;have hcz21_3 : w20.cell? ⟨gb4,3,none⟩ = some (.int .i64 ((rd_T43 l1_0 x5_1).f3)):=(blk_cell BK4.out 3).trans rfl;have hcz21_4 : w20.cell? ⟨gb4,4,none⟩ = some (.bool ((rd_T43 l1_0 x5_1).f4)):=(blk_cell BK4.out 4).trans rfl;have hfz21_0:=blk_frozen BK4.out 0;have hfz21_1:=blk_frozen BK4.out 1;have hfz21_2:=blk_frozen BK4.out 2;have hfz21_3:=blk_frozen BK4.out 3;have hfz21_4:=blk_frozen BK4.out 4) | (go_at_call 71;(with_reducible refine (spec_inRange.calls ((rd_T43 l1_0 x5_1).f1) 0 99 true _ A9.out).mono ?_);rintro e w' ⟨rfl,⟨nd,rfl⟩⟩;(try first | exact ⟨rfl,_,World.drewN_drewN _ _ _⟩ | exact ⟨rfl,_,Eq.trans (World.drewN_drewN _ _ _) (congrArg (World.drewN _) (Nat.add_assoc _ _ _))⟩);have hcz22_0 : w20.cell? ⟨gb2,0,none⟩ = some (.slice (some ad3) l1_0.length c1_0):=(blk_cell BK2.out 0).trans rfl;have hfz22_0:=blk_frozen BK2.out 0) | (go_at_call 72;(with_reducible refine (spec_validLinks.calls _ _ l1_0 x5_1 true _ ?side1 ?side2 A11.out).mono ?_);(case side1=>repeat (first | exact (Kd.C_below HR1_0.out hbw_) | (with_reducible refine Kd.C_alloc ?_ _) | (with_reducible refine Kd.C_drewN ?_ _) | (with_reducible refine Kd.C_drew ?_)));(case side2=>exact HC1_0.out);rintro e w23 ⟨rfl,hb⟩;replace BK1:=kb_ BK1 hb;replace BK2:=kb_ BK2 hb;replace BK4:=kb_ BK4 hb;replace HB:=a0_ (below_step hbw_ hb);(try clear hb);(try clear hb2);(try clear hk);(try clear hi)))
        repeat (go_quiet (first | ((with_reducible refine gate_dst (N:=6) rfl ?_);(try (refine gate_guard (by rfl) ?_;dsimp only));refine box_event ?hg (N:=6) ?hd (cs:=#[.int .i64 0,.int .i64 0,.int .i64 0,.int .i64 0,.bool false]) (t:=43) ?hr ?_;(case hd=>rfl);(case hg=>rfl);(case hr=>first | (go_simp;done) | (go_simp;rfl));intro gb4 hg w15 hbox hb;have n0_:=kb_ BK1 hb;have n1_:=kb_ BK2 hb;have n2_:=a0_ (below_step hbw_ hb);have n3_:=a0_ (hbox);have n4_:=a0_ ((by rw [hg];exact (below_size hbw_) : w.heap.size ≤ gb4));have n5_:=a0_ ((by rw [hg];exact (below_size hbw_) : w.heap.size ≤ gb4));have n6_:=a0_ ((by rw [hg];exact Nat.ne_of_lt (blk_lt (bb_ BK1.out)) : gb1 ≠ gb4));have n7_:=a0_ ((by rw [hg];exact Nat.ne_of_gt (blk_lt (bb_ BK1.out)) : gb4 ≠ gb1));have n8_:=a0_ ((by rw [hg];exact Nat.ne_of_lt (blk_lt (bb_ BK2.out)) : gb2 ≠ gb4));have n9_:=a0_ ((by rw [hg];exact Nat.ne_of_gt (blk_lt (bb_ BK2.out)) : gb4 ≠ gb2));clear BK1 BK2 HB;have BK1:=n0_;have BK2:=n1_;have HB:=n2_;have BK4:=n3_;have GW4:=n4_;have GE4:=n5_;have NB1_4:=n6_;have NB4_1:=n7_;have NB2_4:=n8_;have NB4_2:=n9_;clear n0_ n1_ n2_ n3_ n4_ n5_ n6_ n7_ n8_ n9_;clear hb hbox hg;have hnb16:=NB4_1.out;have hnc16:=NB1_4.out;have hnb17:=NB4_2.out;have hnc17:=NB2_4.out;have hcz18_0 : w15.cell? ⟨gb4,0,none⟩ = some (.int .i64 0):=(blk_cell BK4.out 0).trans rfl;have hcz18_1 : w15.cell? ⟨gb4,1,none⟩ = some (.int .i64 0):=(blk_cell BK4.out 1).trans rfl;have hcz18_2 : w15.cell? ⟨gb4,2,none⟩ = some (.int .i64 0):=(blk_cell BK4.out 2).trans rfl;have hcz18_3 : w15.cell? ⟨gb4,3,none⟩ = some (.int .i64 0):=(blk_cell BK4.out 3).trans rfl;have hcz18_4 : w15.cell? ⟨gb4,4,none⟩ = some (.bool false):=(blk_cell BK4.out 4).trans rfl;have hfz18_0:=blk_frozen BK4.out 0;have hfz18_1:=blk_frozen BK4.out 1;have hfz18_2:=blk_frozen BK4.out 2;have hfz18_3:=blk_frozen BK4.out 3;have hfz18_4:=blk_frozen BK4.out 4;have hcz19_0 : w15.cell? ⟨gb1,0,none⟩ = some (.slice A0_0 l0_0.length c0_0):=(blk_cell BK1.out 0).trans rfl;have hfz19_0:=blk_frozen BK1.out 0) | (go_at_call 70;(with_reducible refine (spec_hasClass.calls _ _ l0_0 ((rd_T43 l1_0 x5_1).f0) true _ ?side1 ?side2 A7.out).mono ?_);(case side1=>exact Kd.C_below HR0_0.out hbw_);(case side2=>exact HC0_0.out);rintro e w20 ⟨rfl,hb⟩;replace BK1:=a0_ (blk_below (g:=gb1) (o:=.cells #[.slice A0_0 l0_0.length c0_0] 25 (0,0)) (bff_ BK1.out) hb);replace BK2:=a0_ (blk_below (g:=gb2) (o:=.cells #[.slice (some ad3) l1_0.length c1_0] 28 (0,0)) (bff_ BK2.out) hb);replace BK4:=a0_ (blk_below (g:=gb4) (o:=.cells #[.int .i64 ((rd_T43 l1_0 x5_1).f0),.int .i64 ((rd_T43 l1_0 x5_1).f1),.int .i64 ((rd_T43 l1_0 x5_1).f2),.int .i64 ((rd_T43 l1_0 x5_1).f3),.bool ((rd_T43 l1_0 x5_1).f4)] 43 (0,0)) (by (with_reducible repeat (first | refine blk_drewN ?_ _ | refine blk_drew ?_ | refine blk_alloc ?_ _));refine blk_put (cs:=#[.int .i64 ((rd_T43 l1_0 x5_1).f0),.int .i64 ((rd_T43 l1_0 x5_1).f1),.int .i64 ((rd_T43 l1_0 x5_1).f2),.int .i64 ((rd_T43 l1_0 x5_1).f3),.bool false]) ?_ 4 _ rfl;(with_reducible repeat (first | refine blk_drewN ?_ _ | refine blk_drew ?_ | refine blk_alloc ?_ _));refine blk_put (cs:=#[.int .i64 ((rd_T43 l1_0 x5_1).f0),.int .i64 ((rd_T43 l1_0 x5_1).f1),.int .i64 ((rd_T43 l1_0 x5_1).f2),.int .i64 0,.bool false]) ?_ 3 _ rfl;(with_reducible repeat (first | refine blk_drewN ?_ _ | refine blk_drew ?_ | refine blk_alloc ?_ _));refine blk_put (cs:=#[.int .i64 ((rd_T43 l1_0 x5_1).f0),.int .i64 ((rd_T43 l1_0 x5_1).f1),.int .i64 0,.int .i64 0,.bool false]) ?_ 2 _ rfl;(with_reducible repeat (first | refine blk_drewN ?_ _ | refine blk_drew ?_ | refine blk_alloc ?_ _));refine blk_put (cs:=#[.int .i64 ((rd_T43 l1_0 x5_1).f0),.int .i64 0,.int .i64 0,.int .i64 0,.bool false]) ?_ 1 _ rfl;(with_reducible repeat (first | refine blk_drewN ?_ _ | refine blk_drew ?_ | refine blk_alloc ?_ _));refine blk_put (cs:=#[.int .i64 0,.int .i64 0,.int .i64 0,.int .i64 0,.bool false]) ?_ 0 _ rfl;(with_reducible repeat (first | refine blk_drewN ?_ _ | refine blk_drew ?_ | refine blk_alloc ?_ _));exact BK4.out) hb);replace HB:=a0_ (below_step hbw_ hb);(try clear hb);have hcz21_0 : w20.cell? ⟨gb4,0,none⟩ = some (.int .i64 ((rd_T43 l1_0 x5_1).f0)):=(blk_cell BK4.out 0).trans rfl;have hcz21_1 : w20.cell? ⟨gb4,1,none⟩ = some (.int .i64 ((rd_T43 l1_0 x5_1).f1)):=(blk_cell BK4.out 1).trans rfl;have hcz21_2 : w20.cell? ⟨gb4,2,none⟩ = some (.int .i64 ((rd_T43 l1_0 x5_1).f2)):=(blk_cell BK4.out 2).trans rfl;have hcz21_3 : w20.cell? ⟨gb4,3,none⟩ = some (.int .i64 ((rd_T43 l1_0 x5_1).f3)):=(blk_cell BK4.out 3).trans rfl;have hcz21_4 : w20.cell? ⟨gb4,4,none⟩ = some (.bool ((rd_T43 l1_0 x5_1).f4)):=(blk_cell BK4.out 4).trans rfl;have hfz21_0:=blk_frozen BK4.out 0;have hfz21_1:=blk_frozen BK4.out 1;have hfz21_2:=blk_frozen BK4.out 2;have hfz21_3:=blk_frozen BK4.out 3;have hfz21_4:=blk_frozen BK4.out 4) | (go_at_call 71;(with_reducible refine (spec_inRange.calls ((rd_T43 l1_0 x5_1).f1) 0 99 true _ A9.out).mono ?_);rintro e w' ⟨rfl,⟨nd,rfl⟩⟩;(try first | exact ⟨rfl,_,World.drewN_drewN _ _ _⟩ | exact ⟨rfl,_,Eq.trans (World.drewN_drewN _ _ _) (congrArg (World.drewN _) (Nat.add_assoc _ _ _))⟩);have hcz22_0 : w20.cell? ⟨gb2,0,none⟩ = some (.slice (some ad3) l1_0.length c1_0):=(blk_cell BK2.out 0).trans rfl;have hfz22_0:=blk_frozen BK2.out 0) | (go_at_call 72;(with_reducible refine (spec_validLinks.calls _ _ l1_0 x5_1 true _ ?side1 ?side2 A11.out).mono ?_);(case side1=>repeat (first | exact (Kd.C_below HR1_0.out hbw_) | (with_reducible refine Kd.C_alloc ?_ _) | (with_reducible refine Kd.C_drewN ?_ _) | (with_reducible refine Kd.C_drew ?_)));(case side2=>exact HC1_0.out);rintro e w23 ⟨rfl,hb⟩;replace BK1:=kb_ BK1 hb;replace BK2:=kb_ BK2 hb;replace BK4:=kb_ BK4 hb;replace HB:=a0_ (below_step hbw_ hb);(try clear hb);(try clear hb2);(try clear hk);(try clear hi)));try go_wp2_with (first | ((with_reducible refine gate_dst (N:=6) rfl ?_);(try (refine gate_guard (by rfl) ?_;dsimp only));refine box_event ?hg (N:=6) ?hd (cs:=#[.int .i64 0,.int .i64 0,.int .i64 0,.int .i64 0,.bool false]) (t:=43) ?hr ?_;(case hd=>rfl);(case hg=>rfl);(case hr=>first | (go_simp;done) | (go_simp;rfl));intro gb4 hg w15 hbox hb;have n0_:=kb_ BK1 hb;have n1_:=kb_ BK2 hb;have n2_:=a0_ (below_step hbw_ hb);have n3_:=a0_ (hbox);have n4_:=a0_ ((by rw [hg];exact (below_size hbw_) : w.heap.size ≤ gb4));have n5_:=a0_ ((by rw [hg];exact (below_size hbw_) : w.heap.size ≤ gb4));have n6_:=a0_ ((by rw [hg];exact Nat.ne_of_lt (blk_lt (bb_ BK1.out)) : gb1 ≠ gb4));have n7_:=a0_ ((by rw [hg];exact Nat.ne_of_gt (blk_lt (bb_ BK1.out)) : gb4 ≠ gb1));have n8_:=a0_ ((by rw [hg];exact Nat.ne_of_lt (blk_lt (bb_ BK2.out)) : gb2 ≠ gb4));have n9_:=a0_ ((by rw [hg];exact Nat.ne_of_gt (blk_lt (bb_ BK2.out)) : gb4 ≠ gb2));clear BK1 BK2 HB;have BK1:=n0_;have BK2:=n1_;have HB:=n2_;have BK4:=n3_;have GW4:=n4_;have GE4:=n5_;have NB1_4:=n6_;have NB4_1:=n7_;have NB2_4:=n8_;have NB4_2:=n9_;clear n0_ n1_ n2_ n3_ n4_ n5_ n6_ n7_ n8_ n9_;clear hb hbox hg;have hnb16:=NB4_1.out;have hnc16:=NB1_4.out;have hnb17:=NB4_2.out;have hnc17:=NB2_4.out;have hcz18_0 : w15.cell? ⟨gb4,0,none⟩ = some (.int .i64 0):=(blk_cell BK4.out 0).trans rfl;have hcz18_1 : w15.cell? ⟨gb4,1,none⟩ = some (.int .i64 0):=(blk_cell BK4.out 1).trans rfl;have hcz18_2 : w15.cell? ⟨gb4,2,none⟩ = some (.int .i64 0):=(blk_cell BK4.out 2).trans rfl;have hcz18_3 : w15.cell? ⟨gb4,3,none⟩ = some (.int .i64 0):=(blk_cell BK4.out 3).trans rfl;have hcz18_4 : w15.cell? ⟨gb4,4,none⟩ = some (.bool false):=(blk_cell BK4.out 4).trans rfl;have hfz18_0:=blk_frozen BK4.out 0;have hfz18_1:=blk_frozen BK4.out 1;have hfz18_2:=blk_frozen BK4.out 2;have hfz18_3:=blk_frozen BK4.out 3;have hfz18_4:=blk_frozen BK4.out 4;have hcz19_0 : w15.cell? ⟨gb1,0,none⟩ = some (.slice A0_0 l0_0.length c0_0):=(blk_cell BK1.out 0).trans rfl;have hfz19_0:=blk_frozen BK1.out 0) | (go_at_call 70;(with_reducible refine (spec_hasClass.calls _ _ l0_0 ((rd_T43 l1_0 x5_1).f0) true _ ?side1 ?side2 A7.out).mono ?_);(case side1=>exact Kd.C_below HR0_0.out hbw_);(case side2=>exact HC0_0.out);rintro e w20 ⟨rfl,hb⟩;replace BK1:=a0_ (blk_below (g:=gb1) (o:=.cells #[.slice A0_0 l0_0.length c0_0] 25 (0,0)) (bff_ BK1.out) hb);replace BK2:=a0_ (blk_below (g:=gb2) (o:=.cells #[.slice (some ad3) l1_0.length c1_0] 28 (0,0)) (bff_ BK2.out) hb);replace BK4:=a0_ (blk_below (g:=gb4) (o:=.cells #[.int .i64 ((rd_T43 l1_0 x5_1).f0),.int .i64 ((rd_T43 l1_0 x5_1).f1),.int .i64 ((rd_T43 l1_0 x5_1).f2),.int .i64 ((rd_T43 l1_0 x5_1).f3),.bool ((rd_T43 l1_0 x5_1).f4)] 43 (0,0)) (by (with_reducible repeat (first | refine blk_drewN ?_ _ | refine blk_drew ?_ | refine blk_alloc ?_ _));refine blk_put (cs:=#[.int .i64 ((rd_T43 l1_0 x5_1).f0),.int .i64 ((rd_T43 l1_0 x5_1).f1),.int .i64 ((rd_T43 l1_0 x5_1).f2),.int .i64 ((rd_T43 l1_0 x5_1).f3),.bool false]) ?_ 4 _ rfl;(with_reducible repeat (first | refine blk_drewN ?_ _ | refine blk_drew ?_ | refine blk_alloc ?_ _));refine blk_put (cs:=#[.int .i64 ((rd_T43 l1_0 x5_1).f0),.int .i64 ((rd_T43 l1_0 x5_1).f1),.int .i64 ((rd_T43 l1_0 x5_1).f2),.int .i64 0,.bool false]) ?_ 3 _ rfl;(with_reducible repeat (first | refine blk_drewN ?_ _ | refine blk_drew ?_ | refine blk_alloc ?_ _));refine blk_put (cs:=#[.int .i64 ((rd_T43 l1_0 x5_1).f0),.int .i64 ((rd_T43 l1_0 x5_1).f1),.int .i64 0,.int .i64 0,.bool false]) ?_ 2 _ rfl;(with_reducible repeat (first | refine blk_drewN ?_ _ | refine blk_drew ?_ | refine blk_alloc ?_ _));refine blk_put (cs:=#[.int .i64 ((rd_T43 l1_0 x5_1).f0),.int .i64 0,.int .i64 0,.int .i64 0,.bool false]) ?_ 1 _ rfl;(with_reducible repeat (first | refine blk_drewN ?_ _ | refine blk_drew ?_ | refine blk_alloc ?_ _));refine blk_put (cs:=#[.int .i64 0,.int .i64 0,.int .i64 0,.int .i64 0,.bool false]) ?_ 0 _ rfl;(with_reducible repeat (first | refine blk_drewN ?_ _ | refine blk_drew ?_ | refine blk_alloc ?_ _));exact BK4.out) hb);replace HB:=a0_ (below_step hbw_ hb);(try clear hb);have hcz21_0 : w20.cell? ⟨gb4,0,none⟩ = some (.int .i64 ((rd_T43 l1_0 x5_1).f0)):=(blk_cell BK4.out 0).trans rfl;have hcz21_1 : w20.cell? ⟨gb4,1,none⟩ = some (.int .i64 ((rd_T43 l1_0 x5_1).f1)):=(blk_cell BK4.out 1).trans rfl;have hcz21_2 : w20.cell? ⟨gb4,2,none⟩ = some (.int .i64 ((rd_T43 l1_0 x5_1).f2)):=(blk_cell BK4.out 2).trans rfl;have hcz21_3 : w20.cell? ⟨gb4,3,none⟩ = some (.int .i64 ((rd_T43 l1_0 x5_1).f3)):=(blk_cell BK4.out 3).trans rfl;have hcz21_4 : w20.cell? ⟨gb4,4,none⟩ = some (.bool ((rd_T43 l1_0 x5_1).f4)):=(blk_cell BK4.out 4).trans rfl;have hfz21_0:=blk_frozen BK4.out 0;have hfz21_1:=blk_frozen BK4.out 1;have hfz21_2:=blk_frozen BK4.out 2;have hfz21_3:=blk_frozen BK4.out 3;have hfz21_4:=blk_frozen BK4.out 4) | (go_at_call 71;(with_reducible refine (spec_inRange.calls ((rd_T43 l1_0 x5_1).f1) 0 99 true _ A9.out).mono ?_);rintro e w' ⟨rfl,⟨nd,rfl⟩⟩;(try first | exact ⟨rfl,_,World.drewN_drewN _ _ _⟩ | exact ⟨rfl,_,Eq.trans (World.drewN_drewN _ _ _) (congrArg (World.drewN _) (Nat.add_assoc _ _ _))⟩);have hcz22_0 : w20.cell? ⟨gb2,0,none⟩ = some (.slice (some ad3) l1_0.length c1_0):=(blk_cell BK2.out 0).trans rfl;have hfz22_0:=blk_frozen BK2.out 0) | (go_at_call 72;(with_reducible refine (spec_validLinks.calls _ _ l1_0 x5_1 true _ ?side1 ?side2 A11.out).mono ?_);(case side1=>repeat (first | exact (Kd.C_below HR1_0.out hbw_) | (with_reducible refine Kd.C_alloc ?_ _) | (with_reducible refine Kd.C_drewN ?_ _) | (with_reducible refine Kd.C_drew ?_)));(case side2=>exact HC1_0.out);rintro e w23 ⟨rfl,hb⟩;replace BK1:=kb_ BK1 hb;replace BK2:=kb_ BK2 hb;replace BK4:=kb_ BK4 hb;replace HB:=a0_ (below_step hbw_ hb);(try clear hb);(try clear hb2);(try clear hk);(try clear hi))))
        go_roundg k1
        case measure=>have:=HK1.out;omega
        case rel=>exact ⟨(wrap64 (x5_1 + 1)),(by first | rfl | (simp;done) | (simp [*];done)),H',⟨by have:=HK1.out;omega⟩,⟨by (with_reducible repeat (first | refine blk_drewN ?_ _ | refine blk_drew ?_ | refine blk_alloc ?_ _));exact BK1.out⟩,⟨by (with_reducible repeat (first | refine blk_drewN ?_ _ | refine blk_drew ?_ | refine blk_alloc ?_ _));exact BK2.out⟩,⟨hbw_⟩⟩
       ·replace c12:=Bool.eq_false_iff.mpr c12
        subst c12
        have H1 : (some false) = some r:=by rw [if_neg (show ¬ (false = true) by decide)] at H;exact H
        clear H
        have H:=H1
        clear H1
        obtain rfl:=Option.some.inj H
        have hnb24:=NB2_1.out
        have hnc24:=NB1_2.out
        have hcz25_0 : wr.cell? ⟨gb2,0,none⟩ = some (.slice A1_0 l1_0.length c1_0):=(blk_cell BK2.out 0).trans rfl
        have hfz25_0:=blk_frozen BK2.out 0
        have p3 : 0 ≤ (x5_1 : Int):=of_decide_eq_true (by first | (with_reducible assumption) | assumption)
        have q3 : x5_1 < (l1_0.length : Int):=of_decide_eq_true (by first | (with_reducible assumption) | assumption)
        obtain ⟨ad3,e3,hx3_0,hx3_1,hx3_2,hx3_3,hx3_4⟩:=at_T43 HR1_0.out x5_1 p3 q3
        cases e3
        replace hx3_0:=(HB.out.cell (World.block_lt_of_cell? w _ hx3_0)).trans hx3_0
        replace hx3_1:=(HB.out.cell (World.block_lt_of_cell? w _ hx3_1)).trans hx3_1
        replace hx3_2:=(HB.out.cell (World.block_lt_of_cell? w _ hx3_2)).trans hx3_2
        replace hx3_3:=(HB.out.cell (World.block_lt_of_cell? w _ hx3_3)).trans hx3_3
        replace hx3_4:=(HB.out.cell (World.block_lt_of_cell? w _ hx3_4)).trans hx3_4
        replace p3:=eq_true p3
        replace q3:=eq_true q3
        go_wp2_with (first | ((with_reducible refine gate_dst (N:=6) rfl ?_);(try (refine gate_guard (by rfl) ?_;dsimp only));refine box_event ?hg (N:=6) ?hd (cs:=#[.int .i64 0,.int .i64 0,.int .i64 0,.int .i64 0,.bool false]) (t:=43) ?hr ?_;(case hd=>rfl);(case hg=>rfl);(case hr=>first | (go_simp;done) | (go_simp;rfl));intro gb4 hg w26 hbox hb;have n0_:=kb_ BK1 hb;have n1_:=kb_ BK2 hb;have n2_:=a0_ (below_step hbw_ hb);have n3_:=a0_ (hbox);have n4_:=a0_ ((by rw [hg];exact (below_size hbw_) : w.heap.size ≤ gb4));have n5_:=a0_ ((by rw [hg];exact (below_size hbw_) : w.heap.size ≤ gb4));have n6_:=a0_ ((by rw [hg];exact Nat.ne_of_lt (blk_lt (bb_ BK1.out)) : gb1 ≠ gb4));have n7_:=a0_ ((by rw [hg];exact Nat.ne_of_gt (blk_lt (bb_ BK1.out)) : gb4 ≠ gb1));have n8_:=a0_ ((by rw [hg];exact Nat.ne_of_lt (blk_lt (bb_ BK2.out)) : gb2 ≠ gb4));have n9_:=a0_ ((by rw [hg];exact Nat.ne_of_gt (blk_lt (bb_ BK2.out)) : gb4 ≠ gb2));clear BK1 BK2 HB;have BK1:=n0_;have BK2:=n1_;have HB:=n2_;have BK4:=n3_;have GW4:=n4_;have GE4:=n5_;have NB1_4:=n6_;have NB4_1:=n7_;have NB2_4:=n8_;have NB4_2:=n9_;clear n0_ n1_ n2_ n3_ n4_ n5_ n6_ n7_ n8_ n9_;clear hb hbox hg;have hnb27:=NB4_1.out;have hnc27:=NB1_4.out;have hnb28:=NB4_2.out;have hnc28:=NB2_4.out;have hcz29_0 : w26.cell? ⟨gb4,0,none⟩ = some (.int .i64 0):=(blk_cell BK4.out 0).trans rfl;have hcz29_1 : w26.cell? ⟨gb4,1,none⟩ = some (.int .i64 0):=(blk_cell BK4.out 1).trans rfl;have hcz29_2 : w26.cell? ⟨gb4,2,none⟩ = some (.int .i64 0):=(blk_cell BK4.out 2).trans rfl;have hcz29_3 : w26.cell? ⟨gb4,3,none⟩ = some (.int .i64 0):=(blk_cell BK4.out 3).trans rfl;have hcz29_4 : w26.cell? ⟨gb4,4,none⟩ = some (.bool false):=(blk_cell BK4.out 4).trans rfl;have hfz29_0:=blk_frozen BK4.out 0;have hfz29_1:=blk_frozen BK4.out 1;have hfz29_2:=blk_frozen BK4.out 2;have hfz29_3:=blk_frozen BK4.out 3;have hfz29_4:=blk_frozen BK4.out 4;have hcz30_0 : w26.cell? ⟨gb1,0,none⟩ = some (.slice A0_0 l0_0.length c0_0):=(blk_cell BK1.out 0).trans rfl;have hfz30_0:=blk_frozen BK1.out 0) | (go_at_call 70;(with_reducible refine (spec_hasClass.calls _ _ l0_0 ((rd_T43 l1_0 x5_1).f0) true _ ?side1 ?side2 A7.out).mono ?_);(case side1=>exact Kd.C_below HR0_0.out hbw_);(case side2=>exact HC0_0.out);rintro e w31 ⟨rfl,hb⟩;replace BK1:=a0_ (blk_below (g:=gb1) (o:=.cells #[.slice A0_0 l0_0.length c0_0] 25 (0,0)) (bff_ BK1.out) hb);replace BK2:=a0_ (blk_below (g:=gb2) (o:=.cells #[.slice (some ad3) l1_0.length c1_0] 28 (0,0)) (bff_ BK2.out) hb);replace BK4:=a0_ (blk_below (g:=gb4) (o:=.cells #[.int .i64 ((rd_T43 l1_0 x5_1).f0),.int .i64 ((rd_T43 l1_0 x5_1).f1),.int .i64 ((rd_T43 l1_0 x5_1).f2),.int .i64 ((rd_T43 l1_0 x5_1).f3),.bool ((rd_T43 l1_0 x5_1).f4)] 43 (0,0)) (by (with_reducible repeat (first | refine blk_drewN ?_ _ | refine blk_drew ?_ | refine blk_alloc ?_ _));refine blk_put (cs:=#[.int .i64 ((rd_T43 l1_0 x5_1).f0),.int .i64 ((rd_T43 l1_0 x5_1).f1),.int .i64 ((rd_T43 l1_0 x5_1).f2),.int .i64 ((rd_T43 l1_0 x5_1).f3),.bool false]) ?_ 4 _ rfl;(with_reducible repeat (first | refine blk_drewN ?_ _ | refine blk_drew ?_ | refine blk_alloc ?_ _));refine blk_put (cs:=#[.int .i64 ((rd_T43 l1_0 x5_1).f0),.int .i64 ((rd_T43 l1_0 x5_1).f1),.int .i64 ((rd_T43 l1_0 x5_1).f2),.int .i64 0,.bool false]) ?_ 3 _ rfl;(with_reducible repeat (first | refine blk_drewN ?_ _ | refine blk_drew ?_ | refine blk_alloc ?_ _));refine blk_put (cs:=#[.int .i64 ((rd_T43 l1_0 x5_1).f0),.int .i64 ((rd_T43 l1_0 x5_1).f1),.int .i64 0,.int .i64 0,.bool false]) ?_ 2 _ rfl;(with_reducible repeat (first | refine blk_drewN ?_ _ | refine blk_drew ?_ | refine blk_alloc ?_ _));refine blk_put (cs:=#[.int .i64 ((rd_T43 l1_0 x5_1).f0),.int .i64 0,.int .i64 0,.int .i64 0,.bool false]) ?_ 1 _ rfl;(with_reducible repeat (first | refine blk_drewN ?_ _ | refine blk_drew ?_ | refine blk_alloc ?_ _));refine blk_put (cs:=#[.int .i64 0,.int .i64 0,.int .i64 0,.int .i64 0,.bool false]) ?_ 0 _ rfl;(with_reducible repeat (first | refine blk_drewN ?_ _ | refine blk_drew ?_ | refine blk_alloc ?_ _));exact BK4.out) hb);replace HB:=a0_ (below_step hbw_ hb);(try clear hb);have hcz32_0 : w31.cell? ⟨gb4,0,none⟩ = some (.int .i64 ((rd_T43 l1_0 x5_1).f0)):=(blk_cell BK4.out 0).trans rfl;have hcz32_1 : w31.cell? ⟨gb4,1,none⟩ = some (.int .i64 ((rd_T43 l1_0 x5_1).f1)):=(blk_cell BK4.out 1).trans rfl;have hcz32_2 : w31.cell? ⟨gb4,2,none⟩ = some (.int .i64 ((rd_T43 l1_0 x5_1).f2)):=(blk_cell BK4.out 2).trans rfl;have hcz32_3 : w31.cell? ⟨gb4,3,none⟩ = some (.int .i64 ((rd_T43 l1_0 x5_1).f3)):=(blk_cell BK4.out 3).trans rfl;have hcz32_4 : w31.cell? ⟨gb4,4,none⟩ = some (.bool ((rd_T43 l1_0 x5_1).f4)):=(blk_cell BK4.out 4).trans rfl;have hfz32_0:=blk_frozen BK4.out 0;have hfz32_1:=blk_frozen BK4.out 1;have hfz32_2:=blk_frozen BK4.out 2;have hfz32_3:=blk_frozen BK4.out 3;have hfz32_4:=blk_frozen BK4.out 4) | (go_at_call 71;(with_reducible refine (spec_inRange.calls ((rd_T43 l1_0 x5_1).f1) 0 99 true _ A9.out).mono ?_);rintro e w' ⟨rfl,⟨nd,rfl⟩⟩;(try first | exact ⟨rfl,_,World.drewN_drewN _ _ _⟩ | exact ⟨rfl,_,Eq.trans (World.drewN_drewN _ _ _) (congrArg (World.drewN _) (Nat.add_assoc _ _ _))⟩);have hcz33_0 : w31.cell? ⟨gb2,0,none⟩ = some (.slice (some ad3) l1_0.length c1_0):=(blk_cell BK2.out 0).trans rfl;have hfz33_0:=blk_frozen BK2.out 0) | (go_at_call 72;(with_reducible refine (spec_validLinks.calls _ _ l1_0 x5_1 false _ ?side1 ?side2 A11.out).mono ?_);(case side1=>repeat (first | exact (Kd.C_below HR1_0.out hbw_) | (with_reducible refine Kd.C_alloc ?_ _) | (with_reducible refine Kd.C_drewN ?_ _) | (with_reducible refine Kd.C_drew ?_)));(case side2=>exact HC1_0.out);rintro e w34 ⟨rfl,hb⟩;replace BK1:=kb_ BK1 hb;replace BK2:=kb_ BK2 hb;replace BK4:=kb_ BK4 hb;replace HB:=a0_ (below_step hbw_ hb);(try clear hb);(try clear hb2);(try clear hk);(try clear hi)))
        repeat (go_quiet (first | ((with_reducible refine gate_dst (N:=6) rfl ?_);(try (refine gate_guard (by rfl) ?_;dsimp only));refine box_event ?hg (N:=6) ?hd (cs:=#[.int .i64 0,.int .i64 0,.int .i64 0,.int .i64 0,.bool false]) (t:=43) ?hr ?_;(case hd=>rfl);(case hg=>rfl);(case hr=>first | (go_simp;done) | (go_simp;rfl));intro gb4 hg w26 hbox hb;have n0_:=kb_ BK1 hb;have n1_:=kb_ BK2 hb;have n2_:=a0_ (below_step hbw_ hb);have n3_:=a0_ (hbox);have n4_:=a0_ ((by rw [hg];exact (below_size hbw_) : w.heap.size ≤ gb4));have n5_:=a0_ ((by rw [hg];exact (below_size hbw_) : w.heap.size ≤ gb4));have n6_:=a0_ ((by rw [hg];exact Nat.ne_of_lt (blk_lt (bb_ BK1.out)) : gb1 ≠ gb4));have n7_:=a0_ ((by rw [hg];exact Nat.ne_of_gt (blk_lt (bb_ BK1.out)) : gb4 ≠ gb1));have n8_:=a0_ ((by rw [hg];exact Nat.ne_of_lt (blk_lt (bb_ BK2.out)) : gb2 ≠ gb4));have n9_:=a0_ ((by rw [hg];exact Nat.ne_of_gt (blk_lt (bb_ BK2.out)) : gb4 ≠ gb2));clear BK1 BK2 HB;have BK1:=n0_;have BK2:=n1_;have HB:=n2_;have BK4:=n3_;have GW4:=n4_;have GE4:=n5_;have NB1_4:=n6_;have NB4_1:=n7_;have NB2_4:=n8_;have NB4_2:=n9_;clear n0_ n1_ n2_ n3_ n4_ n5_ n6_ n7_ n8_ n9_;clear hb hbox hg;have hnb27:=NB4_1.out;have hnc27:=NB1_4.out;have hnb28:=NB4_2.out;have hnc28:=NB2_4.out;have hcz29_0 : w26.cell? ⟨gb4,0,none⟩ = some (.int .i64 0):=(blk_cell BK4.out 0).trans rfl;have hcz29_1 : w26.cell? ⟨gb4,1,none⟩ = some (.int .i64 0):=(blk_cell BK4.out 1).trans rfl;have hcz29_2 : w26.cell? ⟨gb4,2,none⟩ = some (.int .i64 0):=(blk_cell BK4.out 2).trans rfl;have hcz29_3 : w26.cell? ⟨gb4,3,none⟩ = some (.int .i64 0):=(blk_cell BK4.out 3).trans rfl;have hcz29_4 : w26.cell? ⟨gb4,4,none⟩ = some (.bool false):=(blk_cell BK4.out 4).trans rfl;have hfz29_0:=blk_frozen BK4.out 0;have hfz29_1:=blk_frozen BK4.out 1;have hfz29_2:=blk_frozen BK4.out 2;have hfz29_3:=blk_frozen BK4.out 3;have hfz29_4:=blk_frozen BK4.out 4;have hcz30_0 : w26.cell? ⟨gb1,0,none⟩ = some (.slice A0_0 l0_0.length c0_0):=(blk_cell BK1.out 0).trans rfl;have hfz30_0:=blk_frozen BK1.out 0) | (go_at_call 70;(with_reducible refine (spec_hasClass.calls _ _ l0_0 ((rd_T43 l1_0 x5_1).f0) true _ ?side1 ?side2 A7.out).mono ?_);(case side1=>exact Kd.C_below HR0_0.out hbw_);(case side2=>exact HC0_0.out);rintro e w31 ⟨rfl,hb⟩;replace BK1:=a0_ (blk_below (g:=gb1) (o:=.cells #[.slice A0_0 l0_0.length c0_0] 25 (0,0)) (bff_ BK1.out) hb);replace BK2:=a0_ (blk_below (g:=gb2) (o:=.cells #[.slice (some ad3) l1_0.length c1_0] 28 (0,0)) (bff_ BK2.out) hb);replace BK4:=a0_ (blk_below (g:=gb4) (o:=.cells #[.int .i64 ((rd_T43 l1_0 x5_1).f0),.int .i64 ((rd_T43 l1_0 x5_1).f1),.int .i64 ((rd_T43 l1_0 x5_1).f2),.int .i64 ((rd_T43 l1_0 x5_1).f3),.bool ((rd_T43 l1_0 x5_1).f4)] 43 (0,0)) (by (with_reducible repeat (first | refine blk_drewN ?_ _ | refine blk_drew ?_ | refine blk_alloc ?_ _));refine blk_put (cs:=#[.int .i64 ((rd_T43 l1_0 x5_1).f0),.int .i64 ((rd_T43 l1_0 x5_1).f1),.int .i64 ((rd_T43 l1_0 x5_1).f2),.int .i64 ((rd_T43 l1_0 x5_1).f3),.bool false]) ?_ 4 _ rfl;(with_reducible repeat (first | refine blk_drewN ?_ _ | refine blk_drew ?_ | refine blk_alloc ?_ _));refine blk_put (cs:=#[.int .i64 ((rd_T43 l1_0 x5_1).f0),.int .i64 ((rd_T43 l1_0 x5_1).f1),.int .i64 ((rd_T43 l1_0 x5_1).f2),.int .i64 0,.bool false]) ?_ 3 _ rfl;(with_reducible repeat (first | refine blk_drewN ?_ _ | refine blk_drew ?_ | refine blk_alloc ?_ _));refine blk_put (cs:=#[.int .i64 ((rd_T43 l1_0 x5_1).f0),.int .i64 ((rd_T43 l1_0 x5_1).f1),.int .i64 0,.int .i64 0,.bool false]) ?_ 2 _ rfl;(with_reducible repeat (first | refine blk_drewN ?_ _ | refine blk_drew ?_ | refine blk_alloc ?_ _));refine blk_put (cs:=#[.int .i64 ((rd_T43 l1_0 x5_1).f0),.int .i64 0,.int .i64 0,.int .i64 0,.bool false]) ?_ 1 _ rfl;(with_reducible repeat (first | refine blk_drewN ?_ _ | refine blk_drew ?_ | refine blk_alloc ?_ _));refine blk_put (cs:=#[.int .i64 0,.int .i64 0,.int .i64 0,.int .i64 0,.bool false]) ?_ 0 _ rfl;(with_reducible repeat (first | refine blk_drewN ?_ _ | refine blk_drew ?_ | refine blk_alloc ?_ _));exact BK4.out) hb);replace HB:=a0_ (below_step hbw_ hb);(try clear hb);have hcz32_0 : w31.cell? ⟨gb4,0,none⟩ = some (.int .i64 ((rd_T43 l1_0 x5_1).f0)):=(blk_cell BK4.out 0).trans rfl;have hcz32_1 : w31.cell? ⟨gb4,1,none⟩ = some (.int .i64 ((rd_T43 l1_0 x5_1).f1)):=(blk_cell BK4.out 1).trans rfl;have hcz32_2 : w31.cell? ⟨gb4,2,none⟩ = some (.int .i64 ((rd_T43 l1_0 x5_1).f2)):=(blk_cell BK4.out 2).trans rfl;have hcz32_3 : w31.cell? ⟨gb4,3,none⟩ = some (.int .i64 ((rd_T43 l1_0 x5_1).f3)):=(blk_cell BK4.out 3).trans rfl;have hcz32_4 : w31.cell? ⟨gb4,4,none⟩ = some (.bool ((rd_T43 l1_0 x5_1).f4)):=(blk_cell BK4.out 4).trans rfl;have hfz32_0:=blk_frozen BK4.out 0;have hfz32_1:=blk_frozen BK4.out 1;have hfz32_2:=blk_frozen BK4.out 2;have hfz32_3:=blk_frozen BK4.out 3;have hfz32_4:=blk_frozen BK4.out 4) | (go_at_call 71;(with_reducible refine (spec_inRange.calls ((rd_T43 l1_0 x5_1).f1) 0 99 true _ A9.out).mono ?_);rintro e w' ⟨rfl,⟨nd,rfl⟩⟩;(try first | exact ⟨rfl,_,World.drewN_drewN _ _ _⟩ | exact ⟨rfl,_,Eq.trans (World.drewN_drewN _ _ _) (congrArg (World.drewN _) (Nat.add_assoc _ _ _))⟩);have hcz33_0 : w31.cell? ⟨gb2,0,none⟩ = some (.slice (some ad3) l1_0.length c1_0):=(blk_cell BK2.out 0).trans rfl;have hfz33_0:=blk_frozen BK2.out 0) | (go_at_call 72;(with_reducible refine (spec_validLinks.calls _ _ l1_0 x5_1 false _ ?side1 ?side2 A11.out).mono ?_);(case side1=>repeat (first | exact (Kd.C_below HR1_0.out hbw_) | (with_reducible refine Kd.C_alloc ?_ _) | (with_reducible refine Kd.C_drewN ?_ _) | (with_reducible refine Kd.C_drew ?_)));(case side2=>exact HC1_0.out);rintro e w34 ⟨rfl,hb⟩;replace BK1:=kb_ BK1 hb;replace BK2:=kb_ BK2 hb;replace BK4:=kb_ BK4 hb;replace HB:=a0_ (below_step hbw_ hb);(try clear hb);(try clear hb2);(try clear hk);(try clear hi)));try go_wp2_with (first | ((with_reducible refine gate_dst (N:=6) rfl ?_);(try (refine gate_guard (by rfl) ?_;dsimp only));refine box_event ?hg (N:=6) ?hd (cs:=#[.int .i64 0,.int .i64 0,.int .i64 0,.int .i64 0,.bool false]) (t:=43) ?hr ?_;(case hd=>rfl);(case hg=>rfl);(case hr=>first | (go_simp;done) | (go_simp;rfl));intro gb4 hg w26 hbox hb;have n0_:=kb_ BK1 hb;have n1_:=kb_ BK2 hb;have n2_:=a0_ (below_step hbw_ hb);have n3_:=a0_ (hbox);have n4_:=a0_ ((by rw [hg];exact (below_size hbw_) : w.heap.size ≤ gb4));have n5_:=a0_ ((by rw [hg];exact (below_size hbw_) : w.heap.size ≤ gb4));have n6_:=a0_ ((by rw [hg];exact Nat.ne_of_lt (blk_lt (bb_ BK1.out)) : gb1 ≠ gb4));have n7_:=a0_ ((by rw [hg];exact Nat.ne_of_gt (blk_lt (bb_ BK1.out)) : gb4 ≠ gb1));have n8_:=a0_ ((by rw [hg];exact Nat.ne_of_lt (blk_lt (bb_ BK2.out)) : gb2 ≠ gb4));have n9_:=a0_ ((by rw [hg];exact Nat.ne_of_gt (blk_lt (bb_ BK2.out)) : gb4 ≠ gb2));clear BK1 BK2 HB;have BK1:=n0_;have BK2:=n1_;have HB:=n2_;have BK4:=n3_;have GW4:=n4_;have GE4:=n5_;have NB1_4:=n6_;have NB4_1:=n7_;have NB2_4:=n8_;have NB4_2:=n9_;clear n0_ n1_ n2_ n3_ n4_ n5_ n6_ n7_ n8_ n9_;clear hb hbox hg;have hnb27:=NB4_1.out;have hnc27:=NB1_4.out;have hnb28:=NB4_2.out;have hnc28:=NB2_4.out;have hcz29_0 : w26.cell? ⟨gb4,0,none⟩ = some (.int .i64 0):=(blk_cell BK4.out 0).trans rfl;have hcz29_1 : w26.cell? ⟨gb4,1,none⟩ = some (.int .i64 0):=(blk_cell BK4.out 1).trans rfl;have hcz29_2 : w26.cell? ⟨gb4,2,none⟩ = some (.int .i64 0):=(blk_cell BK4.out 2).trans rfl;have hcz29_3 : w26.cell? ⟨gb4,3,none⟩ = some (.int .i64 0):=(blk_cell BK4.out 3).trans rfl;have hcz29_4 : w26.cell? ⟨gb4,4,none⟩ = some (.bool false):=(blk_cell BK4.out 4).trans rfl;have hfz29_0:=blk_frozen BK4.out 0;have hfz29_1:=blk_frozen BK4.out 1;have hfz29_2:=blk_frozen BK4.out 2;have hfz29_3:=blk_frozen BK4.out 3;have hfz29_4:=blk_frozen BK4.out 4;have hcz30_0 : w26.cell? ⟨gb1,0,none⟩ = some (.slice A0_0 l0_0.length c0_0):=(blk_cell BK1.out 0).trans rfl;have hfz30_0:=blk_frozen BK1.out 0) | (go_at_call 70;(with_reducible refine (spec_hasClass.calls _ _ l0_0 ((rd_T43 l1_0 x5_1).f0) true _ ?side1 ?side2 A7.out).mono ?_);(case side1=>exact Kd.C_below HR0_0.out hbw_);(case side2=>exact HC0_0.out);rintro e w31 ⟨rfl,hb⟩;replace BK1:=a0_ (blk_below (g:=gb1) (o:=.cells #[.slice A0_0 l0_0.length c0_0] 25 (0,0)) (bff_ BK1.out) hb);replace BK2:=a0_ (blk_below (g:=gb2) (o:=.cells #[.slice (some ad3) l1_0.length c1_0] 28 (0,0)) (bff_ BK2.out) hb);replace BK4:=a0_ (blk_below (g:=gb4) (o:=.cells #[.int .i64 ((rd_T43 l1_0 x5_1).f0),.int .i64 ((rd_T43 l1_0 x5_1).f1),.int .i64 ((rd_T43 l1_0 x5_1).f2),.int .i64 ((rd_T43 l1_0 x5_1).f3),.bool ((rd_T43 l1_0 x5_1).f4)] 43 (0,0)) (by (with_reducible repeat (first | refine blk_drewN ?_ _ | refine blk_drew ?_ | refine blk_alloc ?_ _));refine blk_put (cs:=#[.int .i64 ((rd_T43 l1_0 x5_1).f0),.int .i64 ((rd_T43 l1_0 x5_1).f1),.int .i64 ((rd_T43 l1_0 x5_1).f2),.int .i64 ((rd_T43 l1_0 x5_1).f3),.bool false]) ?_ 4 _ rfl;(with_reducible repeat (first | refine blk_drewN ?_ _ | refine blk_drew ?_ | refine blk_alloc ?_ _));refine blk_put (cs:=#[.int .i64 ((rd_T43 l1_0 x5_1).f0),.int .i64 ((rd_T43 l1_0 x5_1).f1),.int .i64 ((rd_T43 l1_0 x5_1).f2),.int .i64 0,.bool false]) ?_ 3 _ rfl;(with_reducible repeat (first | refine blk_drewN ?_ _ | refine blk_drew ?_ | refine blk_alloc ?_ _));refine blk_put (cs:=#[.int .i64 ((rd_T43 l1_0 x5_1).f0),.int .i64 ((rd_T43 l1_0 x5_1).f1),.int .i64 0,.int .i64 0,.bool false]) ?_ 2 _ rfl;(with_reducible repeat (first | refine blk_drewN ?_ _ | refine blk_drew ?_ | refine blk_alloc ?_ _));refine blk_put (cs:=#[.int .i64 ((rd_T43 l1_0 x5_1).f0),.int .i64 0,.int .i64 0,.int .i64 0,.bool false]) ?_ 1 _ rfl;(with_reducible repeat (first | refine blk_drewN ?_ _ | refine blk_drew ?_ | refine blk_alloc ?_ _));refine blk_put (cs:=#[.int .i64 0,.int .i64 0,.int .i64 0,.int .i64 0,.bool false]) ?_ 0 _ rfl;(with_reducible repeat (first | refine blk_drewN ?_ _ | refine blk_drew ?_ | refine blk_alloc ?_ _));exact BK4.out) hb);replace HB:=a0_ (below_step hbw_ hb);(try clear hb);have hcz32_0 : w31.cell? ⟨gb4,0,none⟩ = some (.int .i64 ((rd_T43 l1_0 x5_1).f0)):=(blk_cell BK4.out 0).trans rfl;have hcz32_1 : w31.cell? ⟨gb4,1,none⟩ = some (.int .i64 ((rd_T43 l1_0 x5_1).f1)):=(blk_cell BK4.out 1).trans rfl;have hcz32_2 : w31.cell? ⟨gb4,2,none⟩ = some (.int .i64 ((rd_T43 l1_0 x5_1).f2)):=(blk_cell BK4.out 2).trans rfl;have hcz32_3 : w31.cell? ⟨gb4,3,none⟩ = some (.int .i64 ((rd_T43 l1_0 x5_1).f3)):=(blk_cell BK4.out 3).trans rfl;have hcz32_4 : w31.cell? ⟨gb4,4,none⟩ = some (.bool ((rd_T43 l1_0 x5_1).f4)):=(blk_cell BK4.out 4).trans rfl;have hfz32_0:=blk_frozen BK4.out 0;have hfz32_1:=blk_frozen BK4.out 1;have hfz32_2:=blk_frozen BK4.out 2;have hfz32_3:=blk_frozen BK4.out 3;have hfz32_4:=blk_frozen BK4.out 4) | (go_at_call 71;(with_reducible refine (spec_inRange.calls ((rd_T43 l1_0 x5_1).f1) 0 99 true _ A9.out).mono ?_);rintro e w' ⟨rfl,⟨nd,rfl⟩⟩;(try first | exact ⟨rfl,_,World.drewN_drewN _ _ _⟩ | exact ⟨rfl,_,Eq.trans (World.drewN_drewN _ _ _) (congrArg (World.drewN _) (Nat.add_assoc _ _ _))⟩);have hcz33_0 : w31.cell? ⟨gb2,0,none⟩ = some (.slice (some ad3) l1_0.length c1_0):=(blk_cell BK2.out 0).trans rfl;have hfz33_0:=blk_frozen BK2.out 0) | (go_at_call 72;(with_reducible refine (spec_validLinks.calls _ _ l1_0 x5_1 false _ ?side1 ?side2 A11.out).mono ?_);(case side1=>repeat (first | exact (Kd.C_below HR1_0.out hbw_) | (with_reducible refine Kd.C_alloc ?_ _) | (with_reducible refine Kd.C_drewN ?_ _) | (with_reducible refine Kd.C_drew ?_)));(case side2=>exact HC1_0.out);rintro e w34 ⟨rfl,hb⟩;replace BK1:=kb_ BK1 hb;replace BK2:=kb_ BK2 hb;replace BK4:=kb_ BK4 hb;replace HB:=a0_ (below_step hbw_ hb);(try clear hb);(try clear hb2);(try clear hk);(try clear hi))))
        go_ret
        exact ⟨by first | rfl | (simp [errW_none,errW_some] <;> rfl) | (simp [*,errW_none,errW_some] <;> rfl),hbw_⟩
      ·replace c10:=Bool.eq_false_iff.mpr c10
       subst c10
       have H1 : (some false) = some r:=by rw [if_neg (show ¬ (false = true) by decide)] at H;exact H
       clear H
       have H:=H1
       clear H1
       obtain rfl:=Option.some.inj H
       have hnb35:=NB2_1.out
       have hnc35:=NB1_2.out
       have hcz36_0 : wr.cell? ⟨gb2,0,none⟩ = some (.slice A1_0 l1_0.length c1_0):=(blk_cell BK2.out 0).trans rfl
       have hfz36_0:=blk_frozen BK2.out 0
       have p3 : 0 ≤ (x5_1 : Int):=of_decide_eq_true (by first | (with_reducible assumption) | assumption)
       have q3 : x5_1 < (l1_0.length : Int):=of_decide_eq_true (by first | (with_reducible assumption) | assumption)
       obtain ⟨ad3,e3,hx3_0,hx3_1,hx3_2,hx3_3,hx3_4⟩:=at_T43 HR1_0.out x5_1 p3 q3
       cases e3
       replace hx3_0:=(HB.out.cell (World.block_lt_of_cell? w _ hx3_0)).trans hx3_0
       replace hx3_1:=(HB.out.cell (World.block_lt_of_cell? w _ hx3_1)).trans hx3_1
       replace hx3_2:=(HB.out.cell (World.block_lt_of_cell? w _ hx3_2)).trans hx3_2
       replace hx3_3:=(HB.out.cell (World.block_lt_of_cell? w _ hx3_3)).trans hx3_3
       replace hx3_4:=(HB.out.cell (World.block_lt_of_cell? w _ hx3_4)).trans hx3_4
       replace p3:=eq_true p3
       replace q3:=eq_true q3
       go_wp2_with (first | ((with_reducible refine gate_dst (N:=6) rfl ?_);(try (refine gate_guard (by rfl) ?_;dsimp only));refine box_event ?hg (N:=6) ?hd (cs:=#[.int .i64 0,.int .i64 0,.int .i64 0,.int .i64 0,.bool false]) (t:=43) ?hr ?_;(case hd=>rfl);(case hg=>rfl);(case hr=>first | (go_simp;done) | (go_simp;rfl));intro gb4 hg w37 hbox hb;have n0_:=kb_ BK1 hb;have n1_:=kb_ BK2 hb;have n2_:=a0_ (below_step hbw_ hb);have n3_:=a0_ (hbox);have n4_:=a0_ ((by rw [hg];exact (below_size hbw_) : w.heap.size ≤ gb4));have n5_:=a0_ ((by rw [hg];exact (below_size hbw_) : w.heap.size ≤ gb4));have n6_:=a0_ ((by rw [hg];exact Nat.ne_of_lt (blk_lt (bb_ BK1.out)) : gb1 ≠ gb4));have n7_:=a0_ ((by rw [hg];exact Nat.ne_of_gt (blk_lt (bb_ BK1.out)) : gb4 ≠ gb1));have n8_:=a0_ ((by rw [hg];exact Nat.ne_of_lt (blk_lt (bb_ BK2.out)) : gb2 ≠ gb4));have n9_:=a0_ ((by rw [hg];exact Nat.ne_of_gt (blk_lt (bb_ BK2.out)) : gb4 ≠ gb2));clear BK1 BK2 HB;have BK1:=n0_;have BK2:=n1_;have HB:=n2_;have BK4:=n3_;have GW4:=n4_;have GE4:=n5_;have NB1_4:=n6_;have NB4_1:=n7_;have NB2_4:=n8_;have NB4_2:=n9_;clear n0_ n1_ n2_ n3_ n4_ n5_ n6_ n7_ n8_ n9_;clear hb hbox hg;have hnb38:=NB4_1.out;have hnc38:=NB1_4.out;have hnb39:=NB4_2.out;have hnc39:=NB2_4.out;have hcz40_0 : w37.cell? ⟨gb4,0,none⟩ = some (.int .i64 0):=(blk_cell BK4.out 0).trans rfl;have hcz40_1 : w37.cell? ⟨gb4,1,none⟩ = some (.int .i64 0):=(blk_cell BK4.out 1).trans rfl;have hcz40_2 : w37.cell? ⟨gb4,2,none⟩ = some (.int .i64 0):=(blk_cell BK4.out 2).trans rfl;have hcz40_3 : w37.cell? ⟨gb4,3,none⟩ = some (.int .i64 0):=(blk_cell BK4.out 3).trans rfl;have hcz40_4 : w37.cell? ⟨gb4,4,none⟩ = some (.bool false):=(blk_cell BK4.out 4).trans rfl;have hfz40_0:=blk_frozen BK4.out 0;have hfz40_1:=blk_frozen BK4.out 1;have hfz40_2:=blk_frozen BK4.out 2;have hfz40_3:=blk_frozen BK4.out 3;have hfz40_4:=blk_frozen BK4.out 4;have hcz41_0 : w37.cell? ⟨gb1,0,none⟩ = some (.slice A0_0 l0_0.length c0_0):=(blk_cell BK1.out 0).trans rfl;have hfz41_0:=blk_frozen BK1.out 0) | (go_at_call 70;(with_reducible refine (spec_hasClass.calls _ _ l0_0 ((rd_T43 l1_0 x5_1).f0) true _ ?side1 ?side2 A7.out).mono ?_);(case side1=>exact Kd.C_below HR0_0.out hbw_);(case side2=>exact HC0_0.out);rintro e w42 ⟨rfl,hb⟩;replace BK1:=a0_ (blk_below (g:=gb1) (o:=.cells #[.slice A0_0 l0_0.length c0_0] 25 (0,0)) (bff_ BK1.out) hb);replace BK2:=a0_ (blk_below (g:=gb2) (o:=.cells #[.slice (some ad3) l1_0.length c1_0] 28 (0,0)) (bff_ BK2.out) hb);replace BK4:=a0_ (blk_below (g:=gb4) (o:=.cells #[.int .i64 ((rd_T43 l1_0 x5_1).f0),.int .i64 ((rd_T43 l1_0 x5_1).f1),.int .i64 ((rd_T43 l1_0 x5_1).f2),.int .i64 ((rd_T43 l1_0 x5_1).f3),.bool ((rd_T43 l1_0 x5_1).f4)] 43 (0,0)) (by (with_reducible repeat (first | refine blk_drewN ?_ _ | refine blk_drew ?_ | refine blk_alloc ?_ _));refine blk_put (cs:=#[.int .i64 ((rd_T43 l1_0 x5_1).f0),.int .i64 ((rd_T43 l1_0 x5_1).f1),.int .i64 ((rd_T43 l1_0 x5_1).f2),.int .i64 ((rd_T43 l1_0 x5_1).f3),.bool false]) ?_ 4 _ rfl;(with_reducible repeat (first | refine blk_drewN ?_ _ | refine blk_drew ?_ | refine blk_alloc ?_ _));refine blk_put (cs:=#[.int .i64 ((rd_T43 l1_0 x5_1).f0),.int .i64 ((rd_T43 l1_0 x5_1).f1),.int .i64 ((rd_T43 l1_0 x5_1).f2),.int .i64 0,.bool false]) ?_ 3 _ rfl;(with_reducible repeat (first | refine blk_drewN ?_ _ | refine blk_drew ?_ | refine blk_alloc ?_ _));refine blk_put (cs:=#[.int .i64 ((rd_T43 l1_0 x5_1).f0),.int .i64 ((rd_T43 l1_0 x5_1).f1),.int .i64 0,.int .i64 0,.bool false]) ?_ 2 _ rfl;(with_reducible repeat (first | refine blk_drewN ?_ _ | refine blk_drew ?_ | refine blk_alloc ?_ _));refine blk_put (cs:=#[.int .i64 ((rd_T43 l1_0 x5_1).f0),.int .i64 0,.int .i64 0,.int .i64 0,.bool false]) ?_ 1 _ rfl;(with_reducible repeat (first | refine blk_drewN ?_ _ | refine blk_drew ?_ | refine blk_alloc ?_ _));refine blk_put (cs:=#[.int .i64 0,.int .i64 0,.int .i64 0,.int .i64 0,.bool false]) ?_ 0 _ rfl;(with_reducible repeat (first | refine blk_drewN ?_ _ | refine blk_drew ?_ | refine blk_alloc ?_ _));exact BK4.out) hb);replace HB:=a0_ (below_step hbw_ hb);(try clear hb);have hcz43_0 : w42.cell? ⟨gb4,0,none⟩ = some (.int .i64 ((rd_T43 l1_0 x5_1).f0)):=(blk_cell BK4.out 0).trans rfl;have hcz43_1 : w42.cell? ⟨gb4,1,none⟩ = some (.int .i64 ((rd_T43 l1_0 x5_1).f1)):=(blk_cell BK4.out 1).trans rfl;have hcz43_2 : w42.cell? ⟨gb4,2,none⟩ = some (.int .i64 ((rd_T43 l1_0 x5_1).f2)):=(blk_cell BK4.out 2).trans rfl;have hcz43_3 : w42.cell? ⟨gb4,3,none⟩ = some (.int .i64 ((rd_T43 l1_0 x5_1).f3)):=(blk_cell BK4.out 3).trans rfl;have hcz43_4 : w42.cell? ⟨gb4,4,none⟩ = some (.bool ((rd_T43 l1_0 x5_1).f4)):=(blk_cell BK4.out 4).trans rfl;have hfz43_0:=blk_frozen BK4.out 0;have hfz43_1:=blk_frozen BK4.out 1;have hfz43_2:=blk_frozen BK4.out 2;have hfz43_3:=blk_frozen BK4.out 3;have hfz43_4:=blk_frozen BK4.out 4) | (go_at_call 71;(with_reducible refine (spec_inRange.calls ((rd_T43 l1_0 x5_1).f1) 0 99 false _ A9.out).mono ?_);rintro e w' ⟨rfl,⟨nd,rfl⟩⟩;(try first | exact ⟨rfl,_,World.drewN_drewN _ _ _⟩ | exact ⟨rfl,_,Eq.trans (World.drewN_drewN _ _ _) (congrArg (World.drewN _) (Nat.add_assoc _ _ _))⟩)))
       repeat (go_quiet (first | ((with_reducible refine gate_dst (N:=6) rfl ?_);(try (refine gate_guard (by rfl) ?_;dsimp only));refine box_event ?hg (N:=6) ?hd (cs:=#[.int .i64 0,.int .i64 0,.int .i64 0,.int .i64 0,.bool false]) (t:=43) ?hr ?_;(case hd=>rfl);(case hg=>rfl);(case hr=>first | (go_simp;done) | (go_simp;rfl));intro gb4 hg w37 hbox hb;have n0_:=kb_ BK1 hb;have n1_:=kb_ BK2 hb;have n2_:=a0_ (below_step hbw_ hb);have n3_:=a0_ (hbox);have n4_:=a0_ ((by rw [hg];exact (below_size hbw_) : w.heap.size ≤ gb4));have n5_:=a0_ ((by rw [hg];exact (below_size hbw_) : w.heap.size ≤ gb4));have n6_:=a0_ ((by rw [hg];exact Nat.ne_of_lt (blk_lt (bb_ BK1.out)) : gb1 ≠ gb4));have n7_:=a0_ ((by rw [hg];exact Nat.ne_of_gt (blk_lt (bb_ BK1.out)) : gb4 ≠ gb1));have n8_:=a0_ ((by rw [hg];exact Nat.ne_of_lt (blk_lt (bb_ BK2.out)) : gb2 ≠ gb4));have n9_:=a0_ ((by rw [hg];exact Nat.ne_of_gt (blk_lt (bb_ BK2.out)) : gb4 ≠ gb2));clear BK1 BK2 HB;have BK1:=n0_;have BK2:=n1_;have HB:=n2_;have BK4:=n3_;have GW4:=n4_;have GE4:=n5_;have NB1_4:=n6_;have NB4_1:=n7_;have NB2_4:=n8_;have NB4_2:=n9_;clear n0_ n1_ n2_ n3_ n4_ n5_ n6_ n7_ n8_ n9_;clear hb hbox hg;have hnb38:=NB4_1.out;have hnc38:=NB1_4.out;have hnb39:=NB4_2.out;have hnc39:=NB2_4.out;have hcz40_0 : w37.cell? ⟨gb4,0,none⟩ = some (.int .i64 0):=(blk_cell BK4.out 0).trans rfl;have hcz40_1 : w37.cell? ⟨gb4,1,none⟩ = some (.int .i64 0):=(blk_cell BK4.out 1).trans rfl;have hcz40_2 : w37.cell? ⟨gb4,2,none⟩ = some (.int .i64 0):=(blk_cell BK4.out 2).trans rfl;have hcz40_3 : w37.cell? ⟨gb4,3,none⟩ = some (.int .i64 0):=(blk_cell BK4.out 3).trans rfl;have hcz40_4 : w37.cell? ⟨gb4,4,none⟩ = some (.bool false):=(blk_cell BK4.out 4).trans rfl;have hfz40_0:=blk_frozen BK4.out 0;have hfz40_1:=blk_frozen BK4.out 1;have hfz40_2:=blk_frozen BK4.out 2;have hfz40_3:=blk_frozen BK4.out 3;have hfz40_4:=blk_frozen BK4.out 4;have hcz41_0 : w37.cell? ⟨gb1,0,none⟩ = some (.slice A0_0 l0_0.length c0_0):=(blk_cell BK1.out 0).trans rfl;have hfz41_0:=blk_frozen BK1.out 0) | (go_at_call 70;(with_reducible refine (spec_hasClass.calls _ _ l0_0 ((rd_T43 l1_0 x5_1).f0) true _ ?side1 ?side2 A7.out).mono ?_);(case side1=>exact Kd.C_below HR0_0.out hbw_);(case side2=>exact HC0_0.out);rintro e w42 ⟨rfl,hb⟩;replace BK1:=a0_ (blk_below (g:=gb1) (o:=.cells #[.slice A0_0 l0_0.length c0_0] 25 (0,0)) (bff_ BK1.out) hb);replace BK2:=a0_ (blk_below (g:=gb2) (o:=.cells #[.slice (some ad3) l1_0.length c1_0] 28 (0,0)) (bff_ BK2.out) hb);replace BK4:=a0_ (blk_below (g:=gb4) (o:=.cells #[.int .i64 ((rd_T43 l1_0 x5_1).f0),.int .i64 ((rd_T43 l1_0 x5_1).f1),.int .i64 ((rd_T43 l1_0 x5_1).f2),.int .i64 ((rd_T43 l1_0 x5_1).f3),.bool ((rd_T43 l1_0 x5_1).f4)] 43 (0,0)) (by (with_reducible repeat (first | refine blk_drewN ?_ _ | refine blk_drew ?_ | refine blk_alloc ?_ _));refine blk_put (cs:=#[.int .i64 ((rd_T43 l1_0 x5_1).f0),.int .i64 ((rd_T43 l1_0 x5_1).f1),.int .i64 ((rd_T43 l1_0 x5_1).f2),.int .i64 ((rd_T43 l1_0 x5_1).f3),.bool false]) ?_ 4 _ rfl;(with_reducible repeat (first | refine blk_drewN ?_ _ | refine blk_drew ?_ | refine blk_alloc ?_ _));refine blk_put (cs:=#[.int .i64 ((rd_T43 l1_0 x5_1).f0),.int .i64 ((rd_T43 l1_0 x5_1).f1),.int .i64 ((rd_T43 l1_0 x5_1).f2),.int .i64 0,.bool false]) ?_ 3 _ rfl;(with_reducible repeat (first | refine blk_drewN ?_ _ | refine blk_drew ?_ | refine blk_alloc ?_ _));refine blk_put (cs:=#[.int .i64 ((rd_T43 l1_0 x5_1).f0),.int .i64 ((rd_T43 l1_0 x5_1).f1),.int .i64 0,.int .i64 0,.bool false]) ?_ 2 _ rfl;(with_reducible repeat (first | refine blk_drewN ?_ _ | refine blk_drew ?_ | refine blk_alloc ?_ _));refine blk_put (cs:=#[.int .i64 ((rd_T43 l1_0 x5_1).f0),.int .i64 0,.int .i64 0,.int .i64 0,.bool false]) ?_ 1 _ rfl;(with_reducible repeat (first | refine blk_drewN ?_ _ | refine blk_drew ?_ | refine blk_alloc ?_ _));refine blk_put (cs:=#[.int .i64 0,.int .i64 0,.int .i64 0,.int .i64 0,.bool false]) ?_ 0 _ rfl;(with_reducible repeat (first | refine blk_drewN ?_ _ | refine blk_drew ?_ | refine blk_alloc ?_ _));exact BK4.out) hb);replace HB:=a0_ (below_step hbw_ hb);(try clear hb);have hcz43_0 : w42.cell? ⟨gb4,0,none⟩ = some (.int .i64 ((rd_T43 l1_0 x5_1).f0)):=(blk_cell BK4.out 0).trans rfl;have hcz43_1 : w42.cell? ⟨gb4,1,none⟩ = some (.int .i64 ((rd_T43 l1_0 x5_1).f1)):=(blk_cell BK4.out 1).trans rfl;have hcz43_2 : w42.cell? ⟨gb4,2,none⟩ = some (.int .i64 ((rd_T43 l1_0 x5_1).f2)):=(blk_cell BK4.out 2).trans rfl;have hcz43_3 : w42.cell? ⟨gb4,3,none⟩ = some (.int .i64 ((rd_T43 l1_0 x5_1).f3)):=(blk_cell BK4.out 3).trans rfl;have hcz43_4 : w42.cell? ⟨gb4,4,none⟩ = some (.bool ((rd_T43 l1_0 x5_1).f4)):=(blk_cell BK4.out 4).trans rfl;have hfz43_0:=blk_frozen BK4.out 0;have hfz43_1:=blk_frozen BK4.out 1;have hfz43_2:=blk_frozen BK4.out 2;have hfz43_3:=blk_frozen BK4.out 3;have hfz43_4:=blk_frozen BK4.out 4) | (go_at_call 71;(with_reducible refine (spec_inRange.calls ((rd_T43 l1_0 x5_1).f1) 0 99 false _ A9.out).mono ?_);rintro e w' ⟨rfl,⟨nd,rfl⟩⟩;(try first | exact ⟨rfl,_,World.drewN_drewN _ _ _⟩ | exact ⟨rfl,_,Eq.trans (World.drewN_drewN _ _ _) (congrArg (World.drewN _) (Nat.add_assoc _ _ _))⟩)));try go_wp2_with (first | ((with_reducible refine gate_dst (N:=6) rfl ?_);(try (refine gate_guard (by rfl) ?_;dsimp only));refine box_event ?hg (N:=6) ?hd (cs:=#[.int .i64 0,.int .i64 0,.int .i64 0,.int .i64 0,.bool false]) (t:=43) ?hr ?_;(case hd=>rfl);(case hg=>rfl);(case hr=>first | (go_simp;done) | (go_simp;rfl));intro gb4 hg w37 hbox hb;have n0_:=kb_ BK1 hb;have n1_:=kb_ BK2 hb;have n2_:=a0_ (below_step hbw_ hb);have n3_:=a0_ (hbox);have n4_:=a0_ ((by rw [hg];exact (below_size hbw_) : w.heap.size ≤ gb4));have n5_:=a0_ ((by rw [hg];exact (below_size hbw_) : w.heap.size ≤ gb4));have n6_:=a0_ ((by rw [hg];exact Nat.ne_of_lt (blk_lt (bb_ BK1.out)) : gb1 ≠ gb4));have n7_:=a0_ ((by rw [hg];exact Nat.ne_of_gt (blk_lt (bb_ BK1.out)) : gb4 ≠ gb1));have n8_:=a0_ ((by rw [hg];exact Nat.ne_of_lt (blk_lt (bb_ BK2.out)) : gb2 ≠ gb4));have n9_:=a0_ ((by rw [hg];exact Nat.ne_of_gt (blk_lt (bb_ BK2.out)) : gb4 ≠ gb2));clear BK1 BK2 HB;have BK1:=n0_;have BK2:=n1_;have HB:=n2_;have BK4:=n3_;have GW4:=n4_;have GE4:=n5_;have NB1_4:=n6_;have NB4_1:=n7_;have NB2_4:=n8_;have NB4_2:=n9_;clear n0_ n1_ n2_ n3_ n4_ n5_ n6_ n7_ n8_ n9_;clear hb hbox hg;have hnb38:=NB4_1.out;have hnc38:=NB1_4.out;have hnb39:=NB4_2.out;have hnc39:=NB2_4.out;have hcz40_0 : w37.cell? ⟨gb4,0,none⟩ = some (.int .i64 0):=(blk_cell BK4.out 0).trans rfl;have hcz40_1 : w37.cell? ⟨gb4,1,none⟩ = some (.int .i64 0):=(blk_cell BK4.out 1).trans rfl;have hcz40_2 : w37.cell? ⟨gb4,2,none⟩ = some (.int .i64 0):=(blk_cell BK4.out 2).trans rfl;have hcz40_3 : w37.cell? ⟨gb4,3,none⟩ = some (.int .i64 0):=(blk_cell BK4.out 3).trans rfl;have hcz40_4 : w37.cell? ⟨gb4,4,none⟩ = some (.bool false):=(blk_cell BK4.out 4).trans rfl;have hfz40_0:=blk_frozen BK4.out 0;have hfz40_1:=blk_frozen BK4.out 1;have hfz40_2:=blk_frozen BK4.out 2;have hfz40_3:=blk_frozen BK4.out 3;have hfz40_4:=blk_frozen BK4.out 4;have hcz41_0 : w37.cell? ⟨gb1,0,none⟩ = some (.slice A0_0 l0_0.length c0_0):=(blk_cell BK1.out 0).trans rfl;have hfz41_0:=blk_frozen BK1.out 0) | (go_at_call 70;(with_reducible refine (spec_hasClass.calls _ _ l0_0 ((rd_T43 l1_0 x5_1).f0) true _ ?side1 ?side2 A7.out).mono ?_);(case side1=>exact Kd.C_below HR0_0.out hbw_);(case side2=>exact HC0_0.out);rintro e w42 ⟨rfl,hb⟩;replace BK1:=a0_ (blk_below (g:=gb1) (o:=.cells #[.slice A0_0 l0_0.length c0_0] 25 (0,0)) (bff_ BK1.out) hb);replace BK2:=a0_ (blk_below (g:=gb2) (o:=.cells #[.slice (some ad3) l1_0.length c1_0] 28 (0,0)) (bff_ BK2.out) hb);replace BK4:=a0_ (blk_below (g:=gb4) (o:=.cells #[.int .i64 ((rd_T43 l1_0 x5_1).f0),.int .i64 ((rd_T43 l1_0 x5_1).f1),.int .i64 ((rd_T43 l1_0 x5_1).f2),.int .i64 ((rd_T43 l1_0 x5_1).f3),.bool ((rd_T43 l1_0 x5_1).f4)] 43 (0,0)) (by (with_reducible repeat (first | refine blk_drewN ?_ _ | refine blk_drew ?_ | refine blk_alloc ?_ _));refine blk_put (cs:=#[.int .i64 ((rd_T43 l1_0 x5_1).f0),.int .i64 ((rd_T43 l1_0 x5_1).f1),.int .i64 ((rd_T43 l1_0 x5_1).f2),.int .i64 ((rd_T43 l1_0 x5_1).f3),.bool false]) ?_ 4 _ rfl;(with_reducible repeat (first | refine blk_drewN ?_ _ | refine blk_drew ?_ | refine blk_alloc ?_ _));refine blk_put (cs:=#[.int .i64 ((rd_T43 l1_0 x5_1).f0),.int .i64 ((rd_T43 l1_0 x5_1).f1),.int .i64 ((rd_T43 l1_0 x5_1).f2),.int .i64 0,.bool false]) ?_ 3 _ rfl;(with_reducible repeat (first | refine blk_drewN ?_ _ | refine blk_drew ?_ | refine blk_alloc ?_ _));refine blk_put (cs:=#[.int .i64 ((rd_T43 l1_0 x5_1).f0),.int .i64 ((rd_T43 l1_0 x5_1).f1),.int .i64 0,.int .i64 0,.bool false]) ?_ 2 _ rfl;(with_reducible repeat (first | refine blk_drewN ?_ _ | refine blk_drew ?_ | refine blk_alloc ?_ _));refine blk_put (cs:=#[.int .i64 ((rd_T43 l1_0 x5_1).f0),.int .i64 0,.int .i64 0,.int .i64 0,.bool false]) ?_ 1 _ rfl;(with_reducible repeat (first | refine blk_drewN ?_ _ | refine blk_drew ?_ | refine blk_alloc ?_ _));refine blk_put (cs:=#[.int .i64 0,.int .i64 0,.int .i64 0,.int .i64 0,.bool false]) ?_ 0 _ rfl;(with_reducible repeat (first | refine blk_drewN ?_ _ | refine blk_drew ?_ | refine blk_alloc ?_ _));exact BK4.out) hb);replace HB:=a0_ (below_step hbw_ hb);(try clear hb);have hcz43_0 : w42.cell? ⟨gb4,0,none⟩ = some (.int .i64 ((rd_T43 l1_0 x5_1).f0)):=(blk_cell BK4.out 0).trans rfl;have hcz43_1 : w42.cell? ⟨gb4,1,none⟩ = some (.int .i64 ((rd_T43 l1_0 x5_1).f1)):=(blk_cell BK4.out 1).trans rfl;have hcz43_2 : w42.cell? ⟨gb4,2,none⟩ = some (.int .i64 ((rd_T43 l1_0 x5_1).f2)):=(blk_cell BK4.out 2).trans rfl;have hcz43_3 : w42.cell? ⟨gb4,3,none⟩ = some (.int .i64 ((rd_T43 l1_0 x5_1).f3)):=(blk_cell BK4.out 3).trans rfl;have hcz43_4 : w42.cell? ⟨gb4,4,none⟩ = some (.bool ((rd_T43 l1_0 x5_1).f4)):=(blk_cell BK4.out 4).trans rfl;have hfz43_0:=blk_frozen BK4.out 0;have hfz43_1:=blk_frozen BK4.out 1;have hfz43_2:=blk_frozen BK4.out 2;have hfz43_3:=blk_frozen BK4.out 3;have hfz43_4:=blk_frozen BK4.out 4) | (go_at_call 71;(with_reducible refine (spec_inRange.calls ((rd_T43 l1_0 x5_1).f1) 0 99 false _ A9.out).mono ?_);rintro e w' ⟨rfl,⟨nd,rfl⟩⟩;(try first | exact ⟨rfl,_,World.drewN_drewN _ _ _⟩ | exact ⟨rfl,_,Eq.trans (World.drewN_drewN _ _ _) (congrArg (World.drewN _) (Nat.add_assoc _ _ _))⟩))))
       go_ret
       exact ⟨by first | rfl | (simp [errW_none,errW_some] <;> rfl) | (simp [*,errW_none,errW_some] <;> rfl),hbw_⟩
     ·replace c8:=Bool.eq_false_iff.mpr c8
      subst c8
      have H1 : (some false) = some r:=by rw [if_neg (show ¬ (false = true) by decide)] at H;exact H
      clear H
      have H:=H1
      clear H1
      obtain rfl:=Option.some.inj H
      have hnb44:=NB2_1.out
      have hnc44:=NB1_2.out
      have hcz45_0 : wr.cell? ⟨gb2,0,none⟩ = some (.slice A1_0 l1_0.length c1_0):=(blk_cell BK2.out 0).trans rfl
      have hfz45_0:=blk_frozen BK2.out 0
      have p3 : 0 ≤ (x5_1 : Int):=of_decide_eq_true (by first | (with_reducible assumption) | assumption)
      have q3 : x5_1 < (l1_0.length : Int):=of_decide_eq_true (by first | (with_reducible assumption) | assumption)
      obtain ⟨ad3,e3,hx3_0,hx3_1,hx3_2,hx3_3,hx3_4⟩:=at_T43 HR1_0.out x5_1 p3 q3
      cases e3
      replace hx3_0:=(HB.out.cell (World.block_lt_of_cell? w _ hx3_0)).trans hx3_0
      replace hx3_1:=(HB.out.cell (World.block_lt_of_cell? w _ hx3_1)).trans hx3_1
      replace hx3_2:=(HB.out.cell (World.block_lt_of_cell? w _ hx3_2)).trans hx3_2
      replace hx3_3:=(HB.out.cell (World.block_lt_of_cell? w _ hx3_3)).trans hx3_3
      replace hx3_4:=(HB.out.cell (World.block_lt_of_cell? w _ hx3_4)).trans hx3_4
      replace p3:=eq_true p3
      replace q3:=eq_true q3
      go_wp2_with (first | ((with_reducible refine gate_dst (N:=6) rfl ?_);(try (refine gate_guard (by rfl) ?_;dsimp only));refine box_event ?hg (N:=6) ?hd (cs:=#[.int .i64 0,.int .i64 0,.int .i64 0,.int .i64 0,.bool false]) (t:=43) ?hr ?_;(case hd=>rfl);(case hg=>rfl);(case hr=>first | (go_simp;done) | (go_simp;rfl));intro gb4 hg w46 hbox hb;have n0_:=kb_ BK1 hb;have n1_:=kb_ BK2 hb;have n2_:=a0_ (below_step hbw_ hb);have n3_:=a0_ (hbox);have n4_:=a0_ ((by rw [hg];exact (below_size hbw_) : w.heap.size ≤ gb4));have n5_:=a0_ ((by rw [hg];exact (below_size hbw_) : w.heap.size ≤ gb4));have n6_:=a0_ ((by rw [hg];exact Nat.ne_of_lt (blk_lt (bb_ BK1.out)) : gb1 ≠ gb4));have n7_:=a0_ ((by rw [hg];exact Nat.ne_of_gt (blk_lt (bb_ BK1.out)) : gb4 ≠ gb1));have n8_:=a0_ ((by rw [hg];exact Nat.ne_of_lt (blk_lt (bb_ BK2.out)) : gb2 ≠ gb4));have n9_:=a0_ ((by rw [hg];exact Nat.ne_of_gt (blk_lt (bb_ BK2.out)) : gb4 ≠ gb2));clear BK1 BK2 HB;have BK1:=n0_;have BK2:=n1_;have HB:=n2_;have BK4:=n3_;have GW4:=n4_;have GE4:=n5_;have NB1_4:=n6_;have NB4_1:=n7_;have NB2_4:=n8_;have NB4_2:=n9_;clear n0_ n1_ n2_ n3_ n4_ n5_ n6_ n7_ n8_ n9_;clear hb hbox hg;have hnb47:=NB4_1.out;have hnc47:=NB1_4.out;have hnb48:=NB4_2.out;have hnc48:=NB2_4.out;have hcz49_0 : w46.cell? ⟨gb4,0,none⟩ = some (.int .i64 0):=(blk_cell BK4.out 0).trans rfl;have hcz49_1 : w46.cell? ⟨gb4,1,none⟩ = some (.int .i64 0):=(blk_cell BK4.out 1).trans rfl;have hcz49_2 : w46.cell? ⟨gb4,2,none⟩ = some (.int .i64 0):=(blk_cell BK4.out 2).trans rfl;have hcz49_3 : w46.cell? ⟨gb4,3,none⟩ = some (.int .i64 0):=(blk_cell BK4.out 3).trans rfl;have hcz49_4 : w46.cell? ⟨gb4,4,none⟩ = some (.bool false):=(blk_cell BK4.out 4).trans rfl;have hfz49_0:=blk_frozen BK4.out 0;have hfz49_1:=blk_frozen BK4.out 1;have hfz49_2:=blk_frozen BK4.out 2;have hfz49_3:=blk_frozen BK4.out 3;have hfz49_4:=blk_frozen BK4.out 4;have hcz50_0 : w46.cell? ⟨gb1,0,none⟩ = some (.slice A0_0 l0_0.length c0_0):=(blk_cell BK1.out 0).trans rfl;have hfz50_0:=blk_frozen BK1.out 0) | (go_at_call 70;(with_reducible refine (spec_hasClass.calls _ _ l0_0 ((rd_T43 l1_0 x5_1).f0) false _ ?side1 ?side2 A7.out).mono ?_);(case side1=>exact Kd.C_below HR0_0.out hbw_);(case side2=>exact HC0_0.out);rintro e w51 ⟨rfl,hb⟩;replace BK1:=a0_ (blk_below (g:=gb1) (o:=.cells #[.slice A0_0 l0_0.length c0_0] 25 (0,0)) (bff_ BK1.out) hb);replace BK2:=a0_ (blk_below (g:=gb2) (o:=.cells #[.slice (some ad3) l1_0.length c1_0] 28 (0,0)) (bff_ BK2.out) hb);replace BK4:=a0_ (blk_below (g:=gb4) (o:=.cells #[.int .i64 ((rd_T43 l1_0 x5_1).f0),.int .i64 ((rd_T43 l1_0 x5_1).f1),.int .i64 ((rd_T43 l1_0 x5_1).f2),.int .i64 ((rd_T43 l1_0 x5_1).f3),.bool ((rd_T43 l1_0 x5_1).f4)] 43 (0,0)) (by (with_reducible repeat (first | refine blk_drewN ?_ _ | refine blk_drew ?_ | refine blk_alloc ?_ _));refine blk_put (cs:=#[.int .i64 ((rd_T43 l1_0 x5_1).f0),.int .i64 ((rd_T43 l1_0 x5_1).f1),.int .i64 ((rd_T43 l1_0 x5_1).f2),.int .i64 ((rd_T43 l1_0 x5_1).f3),.bool false]) ?_ 4 _ rfl;(with_reducible repeat (first | refine blk_drewN ?_ _ | refine blk_drew ?_ | refine blk_alloc ?_ _));refine blk_put (cs:=#[.int .i64 ((rd_T43 l1_0 x5_1).f0),.int .i64 ((rd_T43 l1_0 x5_1).f1),.int .i64 ((rd_T43 l1_0 x5_1).f2),.int .i64 0,.bool false]) ?_ 3 _ rfl;(with_reducible repeat (first | refine blk_drewN ?_ _ | refine blk_drew ?_ | refine blk_alloc ?_ _));refine blk_put (cs:=#[.int .i64 ((rd_T43 l1_0 x5_1).f0),.int .i64 ((rd_T43 l1_0 x5_1).f1),.int .i64 0,.int .i64 0,.bool false]) ?_ 2 _ rfl;(with_reducible repeat (first | refine blk_drewN ?_ _ | refine blk_drew ?_ | refine blk_alloc ?_ _));refine blk_put (cs:=#[.int .i64 ((rd_T43 l1_0 x5_1).f0),.int .i64 0,.int .i64 0,.int .i64 0,.bool false]) ?_ 1 _ rfl;(with_reducible repeat (first | refine blk_drewN ?_ _ | refine blk_drew ?_ | refine blk_alloc ?_ _));refine blk_put (cs:=#[.int .i64 0,.int .i64 0,.int .i64 0,.int .i64 0,.bool false]) ?_ 0 _ rfl;(with_reducible repeat (first | refine blk_drewN ?_ _ | refine blk_drew ?_ | refine blk_alloc ?_ _));exact BK4.out) hb);replace HB:=a0_ (below_step hbw_ hb);(try clear hb);(try clear hb2);(try clear hk);(try clear hi)))
      repeat (go_quiet (first | ((with_reducible refine gate_dst (N:=6) rfl ?_);(try (refine gate_guard (by rfl) ?_;dsimp only));refine box_event ?hg (N:=6) ?hd (cs:=#[.int .i64 0,.int .i64 0,.int .i64 0,.int .i64 0,.bool false]) (t:=43) ?hr ?_;(case hd=>rfl);(case hg=>rfl);(case hr=>first | (go_simp;done) | (go_simp;rfl));intro gb4 hg w46 hbox hb;have n0_:=kb_ BK1 hb;have n1_:=kb_ BK2 hb;have n2_:=a0_ (below_step hbw_ hb);have n3_:=a0_ (hbox);have n4_:=a0_ ((by rw [hg];exact (below_size hbw_) : w.heap.size ≤ gb4));have n5_:=a0_ ((by rw [hg];exact (below_size hbw_) : w.heap.size ≤ gb4));have n6_:=a0_ ((by rw [hg];exact Nat.ne_of_lt (blk_lt (bb_ BK1.out)) : gb1 ≠ gb4));have n7_:=a0_ ((by rw [hg];exact Nat.ne_of_gt (blk_lt (bb_ BK1.out)) : gb4 ≠ gb1));have n8_:=a0_ ((by rw [hg];exact Nat.ne_of_lt (blk_lt (bb_ BK2.out)) : gb2 ≠ gb4));have n9_:=a0_ ((by rw [hg];exact Nat.ne_of_gt (blk_lt (bb_ BK2.out)) : gb4 ≠ gb2));clear BK1 BK2 HB;have BK1:=n0_;have BK2:=n1_;have HB:=n2_;have BK4:=n3_;have GW4:=n4_;have GE4:=n5_;have NB1_4:=n6_;have NB4_1:=n7_;have NB2_4:=n8_;have NB4_2:=n9_;clear n0_ n1_ n2_ n3_ n4_ n5_ n6_ n7_ n8_ n9_;clear hb hbox hg;have hnb47:=NB4_1.out;have hnc47:=NB1_4.out;have hnb48:=NB4_2.out;have hnc48:=NB2_4.out;have hcz49_0 : w46.cell? ⟨gb4,0,none⟩ = some (.int .i64 0):=(blk_cell BK4.out 0).trans rfl;have hcz49_1 : w46.cell? ⟨gb4,1,none⟩ = some (.int .i64 0):=(blk_cell BK4.out 1).trans rfl;have hcz49_2 : w46.cell? ⟨gb4,2,none⟩ = some (.int .i64 0):=(blk_cell BK4.out 2).trans rfl;have hcz49_3 : w46.cell? ⟨gb4,3,none⟩ = some (.int .i64 0):=(blk_cell BK4.out 3).trans rfl;have hcz49_4 : w46.cell? ⟨gb4,4,none⟩ = some (.bool false):=(blk_cell BK4.out 4).trans rfl;have hfz49_0:=blk_frozen BK4.out 0;have hfz49_1:=blk_frozen BK4.out 1;have hfz49_2:=blk_frozen BK4.out 2;have hfz49_3:=blk_frozen BK4.out 3;have hfz49_4:=blk_frozen BK4.out 4;have hcz50_0 : w46.cell? ⟨gb1,0,none⟩ = some (.slice A0_0 l0_0.length c0_0):=(blk_cell BK1.out 0).trans rfl;have hfz50_0:=blk_frozen BK1.out 0) | (go_at_call 70;(with_reducible refine (spec_hasClass.calls _ _ l0_0 ((rd_T43 l1_0 x5_1).f0) false _ ?side1 ?side2 A7.out).mono ?_);(case side1=>exact Kd.C_below HR0_0.out hbw_);(case side2=>exact HC0_0.out);rintro e w51 ⟨rfl,hb⟩;replace BK1:=a0_ (blk_below (g:=gb1) (o:=.cells #[.slice A0_0 l0_0.length c0_0] 25 (0,0)) (bff_ BK1.out) hb);replace BK2:=a0_ (blk_below (g:=gb2) (o:=.cells #[.slice (some ad3) l1_0.length c1_0] 28 (0,0)) (bff_ BK2.out) hb);replace BK4:=a0_ (blk_below (g:=gb4) (o:=.cells #[.int .i64 ((rd_T43 l1_0 x5_1).f0),.int .i64 ((rd_T43 l1_0 x5_1).f1),.int .i64 ((rd_T43 l1_0 x5_1).f2),.int .i64 ((rd_T43 l1_0 x5_1).f3),.bool ((rd_T43 l1_0 x5_1).f4)] 43 (0,0)) (by (with_reducible repeat (first | refine blk_drewN ?_ _ | refine blk_drew ?_ | refine blk_alloc ?_ _));refine blk_put (cs:=#[.int .i64 ((rd_T43 l1_0 x5_1).f0),.int .i64 ((rd_T43 l1_0 x5_1).f1),.int .i64 ((rd_T43 l1_0 x5_1).f2),.int .i64 ((rd_T43 l1_0 x5_1).f3),.bool false]) ?_ 4 _ rfl;(with_reducible repeat (first | refine blk_drewN ?_ _ | refine blk_drew ?_ | refine blk_alloc ?_ _));refine blk_put (cs:=#[.int .i64 ((rd_T43 l1_0 x5_1).f0),.int .i64 ((rd_T43 l1_0 x5_1).f1),.int .i64 ((rd_T43 l1_0 x5_1).f2),.int .i64 0,.bool false]) ?_ 3 _ rfl;(with_reducible repeat (first | refine blk_drewN ?_ _ | refine blk_drew ?_ | refine blk_alloc ?_ _));refine blk_put (cs:=#[.int .i64 ((rd_T43 l1_0 x5_1).f0),.int .i64 ((rd_T43 l1_0 x5_1).f1),.int .i64 0,.int .i64 0,.bool false]) ?_ 2 _ rfl;(with_reducible repeat (first | refine blk_drewN ?_ _ | refine blk_drew ?_ | refine blk_alloc ?_ _));refine blk_put (cs:=#[.int .i64 ((rd_T43 l1_0 x5_1).f0),.int .i64 0,.int .i64 0,.int .i64 0,.bool false]) ?_ 1 _ rfl;(with_reducible repeat (first | refine blk_drewN ?_ _ | refine blk_drew ?_ | refine blk_alloc ?_ _));refine blk_put (cs:=#[.int .i64 0,.int .i64 0,.int .i64 0,.int .i64 0,.bool false]) ?_ 0 _ rfl;(with_reducible repeat (first | refine blk_drewN ?_ _ | refine blk_drew ?_ | refine blk_alloc ?_ _));exact BK4.out) hb);replace HB:=a0_ (below_step hbw_ hb);(try clear hb);(try clear hb2);(try clear hk);(try clear hi)));try go_wp2_with (first | ((with_reducible refine gate_dst (N:=6) rfl ?_);(try (refine gate_guard (by rfl) ?_;dsimp only));refine box_event ?hg (N:=6) ?hd (cs:=#[.int .i64 0,.int .i64 0,.int .i64 0,.int .i64 0,.bool false]) (t:=43) ?hr ?_;(case hd=>rfl);(case hg=>rfl);(case hr=>first | (go_simp;done) | (go_simp;rfl));intro gb4 hg w46 hbox hb;have n0_:=kb_ BK1 hb;have n1_:=kb_ BK2 hb;have n2_:=a0_ (below_step hbw_ hb);have n3_:=a0_ (hbox);have n4_:=a0_ ((by rw [hg];exact (below_size hbw_) : w.heap.size ≤ gb4));have n5_:=a0_ ((by rw [hg];exact (below_size hbw_) : w.heap.size ≤ gb4));have n6_:=a0_ ((by rw [hg];exact Nat.ne_of_lt (blk_lt (bb_ BK1.out)) : gb1 ≠ gb4));have n7_:=a0_ ((by rw [hg];exact Nat.ne_of_gt (blk_lt (bb_ BK1.out)) : gb4 ≠ gb1));have n8_:=a0_ ((by rw [hg];exact Nat.ne_of_lt (blk_lt (bb_ BK2.out)) : gb2 ≠ gb4));have n9_:=a0_ ((by rw [hg];exact Nat.ne_of_gt (blk_lt (bb_ BK2.out)) : gb4 ≠ gb2));clear BK1 BK2 HB;have BK1:=n0_;have BK2:=n1_;have HB:=n2_;have BK4:=n3_;have GW4:=n4_;have GE4:=n5_;have NB1_4:=n6_;have NB4_1:=n7_;have NB2_4:=n8_;have NB4_2:=n9_;clear n0_ n1_ n2_ n3_ n4_ n5_ n6_ n7_ n8_ n9_;clear hb hbox hg;have hnb47:=NB4_1.out;have hnc47:=NB1_4.out;have hnb48:=NB4_2.out;have hnc48:=NB2_4.out;have hcz49_0 : w46.cell? ⟨gb4,0,none⟩ = some (.int .i64 0):=(blk_cell BK4.out 0).trans rfl;have hcz49_1 : w46.cell? ⟨gb4,1,none⟩ = some (.int .i64 0):=(blk_cell BK4.out 1).trans rfl;have hcz49_2 : w46.cell? ⟨gb4,2,none⟩ = some (.int .i64 0):=(blk_cell BK4.out 2).trans rfl;have hcz49_3 : w46.cell? ⟨gb4,3,none⟩ = some (.int .i64 0):=(blk_cell BK4.out 3).trans rfl;have hcz49_4 : w46.cell? ⟨gb4,4,none⟩ = some (.bool false):=(blk_cell BK4.out 4).trans rfl;have hfz49_0:=blk_frozen BK4.out 0;have hfz49_1:=blk_frozen BK4.out 1;have hfz49_2:=blk_frozen BK4.out 2;have hfz49_3:=blk_frozen BK4.out 3;have hfz49_4:=blk_frozen BK4.out 4;have hcz50_0 : w46.cell? ⟨gb1,0,none⟩ = some (.slice A0_0 l0_0.length c0_0):=(blk_cell BK1.out 0).trans rfl;have hfz50_0:=blk_frozen BK1.out 0) | (go_at_call 70;(with_reducible refine (spec_hasClass.calls _ _ l0_0 ((rd_T43 l1_0 x5_1).f0) false _ ?side1 ?side2 A7.out).mono ?_);(case side1=>exact Kd.C_below HR0_0.out hbw_);(case side2=>exact HC0_0.out);rintro e w51 ⟨rfl,hb⟩;replace BK1:=a0_ (blk_below (g:=gb1) (o:=.cells #[.slice A0_0 l0_0.length c0_0] 25 (0,0)) (bff_ BK1.out) hb);replace BK2:=a0_ (blk_below (g:=gb2) (o:=.cells #[.slice (some ad3) l1_0.length c1_0] 28 (0,0)) (bff_ BK2.out) hb);replace BK4:=a0_ (blk_below (g:=gb4) (o:=.cells #[.int .i64 ((rd_T43 l1_0 x5_1).f0),.int .i64 ((rd_T43 l1_0 x5_1).f1),.int .i64 ((rd_T43 l1_0 x5_1).f2),.int .i64 ((rd_T43 l1_0 x5_1).f3),.bool ((rd_T43 l1_0 x5_1).f4)] 43 (0,0)) (by (with_reducible repeat (first | refine blk_drewN ?_ _ | refine blk_drew ?_ | refine blk_alloc ?_ _));refine blk_put (cs:=#[.int .i64 ((rd_T43 l1_0 x5_1).f0),.int .i64 ((rd_T43 l1_0 x5_1).f1),.int .i64 ((rd_T43 l1_0 x5_1).f2),.int .i64 ((rd_T43 l1_0 x5_1).f3),.bool false]) ?_ 4 _ rfl;(with_reducible repeat (first | refine blk_drewN ?_ _ | refine blk_drew ?_ | refine blk_alloc ?_ _));refine blk_put (cs:=#[.int .i64 ((rd_T43 l1_0 x5_1).f0),.int .i64 ((rd_T43 l1_0 x5_1).f1),.int .i64 ((rd_T43 l1_0 x5_1).f2),.int .i64 0,.bool false]) ?_ 3 _ rfl;(with_reducible repeat (first | refine blk_drewN ?_ _ | refine blk_drew ?_ | refine blk_alloc ?_ _));refine blk_put (cs:=#[.int .i64 ((rd_T43 l1_0 x5_1).f0),.int .i64 ((rd_T43 l1_0 x5_1).f1),.int .i64 0,.int .i64 0,.bool false]) ?_ 2 _ rfl;(with_reducible repeat (first | refine blk_drewN ?_ _ | refine blk_drew ?_ | refine blk_alloc ?_ _));refine blk_put (cs:=#[.int .i64 ((rd_T43 l1_0 x5_1).f0),.int .i64 0,.int .i64 0,.int .i64 0,.bool false]) ?_ 1 _ rfl;(with_reducible repeat (first | refine blk_drewN ?_ _ | refine blk_drew ?_ | refine blk_alloc ?_ _));refine blk_put (cs:=#[.int .i64 0,.int .i64 0,.int .i64 0,.int .i64 0,.bool false]) ?_ 0 _ rfl;(with_reducible repeat (first | refine blk_drewN ?_ _ | refine blk_drew ?_ | refine blk_alloc ?_ _));exact BK4.out) hb);replace HB:=a0_ (below_step hbw_ hb);(try clear hb);(try clear hb2);(try clear hk);(try clear hi))))
      go_ret
      exact ⟨by first | rfl | (simp [errW_none,errW_some] <;> rfl) | (simp [*,errW_none,errW_some] <;> rfl),hbw_⟩
    ·rw [if_neg c6] at H
     exact absurd H (by simp)
   ·rw [if_neg c5] at H
    have c5b0 : decide (x5_1 < (l1_0.length : Int)) = false:=decide_eq_false c5
    clear c5
    have H':=a0_ H
    clear H
    have hnb52:=NB2_1.out
    have hnc52:=NB1_2.out
    have hcz53_0 : wr.cell? ⟨gb2,0,none⟩ = some (.slice A1_0 l1_0.length c1_0):=(blk_cell BK2.out 0).trans rfl
    have hfz53_0:=blk_frozen BK2.out 0
    go_wp2
    repeat (go_quiet (fail);try go_wp2)
    go_loopg [7] k1 (fun kq v7 w'=>∃ (x7_2 : Int),v7 = .int .i64 x7_2 ∧ Aside0 (spec_validHeap.l1 kq x7_2 l0_0 l1_0 = some r) ∧ Aside0 (kq ≤ k1) ∧ Aside0 (w'.heap[gb1]? = some (.cells #[(.slice A0_0 l0_0.length c0_0)] 25 (0,0))) ∧ Aside0 (w'.heap[gb2]? = some (.cells #[(.slice A1_0 l1_0.length c1_0)] 28 (0,0))) ∧ Aside0 (Below w.heap.size w w'))
    case atStart=>exact ⟨(0),(by first | rfl | (simp;done) | (simp [*];done)),H',⟨Nat.le_refl _⟩,⟨by (with_reducible repeat (first | refine blk_drewN ?_ _ | refine blk_drew ?_ | refine blk_alloc ?_ _));exact BK1.out⟩,⟨by (with_reducible repeat (first | refine blk_drewN ?_ _ | refine blk_drew ?_ | refine blk_alloc ?_ _));exact BK2.out⟩,⟨hbw_⟩⟩
    case round =>
     clear H'
     try clear c1
     try clear c2
     try clear p2
     try clear c3
     try clear p3
     try clear q3
     try clear hx3
     try clear c4
     try clear c5
     try clear c5b0
     try clear c6
     try clear c6b0
     try clear p6
     try clear c8
     try clear c10
     try clear c12
     try clear c13
     try clear c16
     try clear c17
     try clear c24
     try clear c27
     try clear c28
     try clear c35
     try clear c38
     try clear c39
     try clear c44
     try clear c46
     try clear c47
     try clear c48
     try clear c52
     try clear hcz14_0
     try clear hcz18_0
     try clear hcz18_1
     try clear hcz18_2
     try clear hcz18_3
     try clear hcz18_4
     try clear hcz19_0
     try clear hcz21_0
     try clear hcz21_1
     try clear hcz21_2
     try clear hcz21_3
     try clear hcz21_4
     try clear hcz22_0
     try clear hcz25_0
     try clear hcz29_0
     try clear hcz29_1
     try clear hcz29_2
     try clear hcz29_3
     try clear hcz29_4
     try clear hcz30_0
     try clear hcz32_0
     try clear hcz32_1
     try clear hcz32_2
     try clear hcz32_3
     try clear hcz32_4
     try clear hcz33_0
     try clear hcz36_0
     try clear hcz40_0
     try clear hcz40_1
     try clear hcz40_2
     try clear hcz40_3
     try clear hcz40_4
     try clear hcz41_0
     try clear hcz43_0
     try clear hcz43_1
     try clear hcz43_2
     try clear hcz43_3
     try clear hcz43_4
     try clear hcz45_0
     try clear hcz49_0
     try clear hcz49_1
     try clear hcz49_2
     try clear hcz49_3
     try clear hcz49_4
     try clear hcz50_0
     try clear hcz53_0
     try clear hfz14_0
     try clear hfz18_0
     try clear hfz18_1
     try clear hfz18_2
     try clear hfz18_3
     try clear hfz18_4
     try clear hfz19_0
     try clear hfz21_0
     try clear hfz21_1
     try clear hfz21_2
     try clear hfz21_3
     try clear hfz21_4
     try clear hfz22_0
     try clear hfz25_0
     try clear hfz29_0
     try clear hfz29_1
     try clear hfz29_2
     try clear hfz29_3
     try clear hfz29_4
     try clear hfz30_0
     try clear hfz32_0
     try clear hfz32_1
     try clear hfz32_2
     try clear hfz32_3
     try clear hfz32_4
     try clear hfz33_0
     try clear hfz36_0
     try clear hfz40_0
     try clear hfz40_1
     try clear hfz40_2
     try clear hfz40_3
     try clear hfz40_4
     try clear hfz41_0
     try clear hfz43_0
     try clear hfz43_1
     try clear hfz43_2
     try clear hfz43_3
     try clear hfz43_4
     try clear hfz45_0
     try clear hfz49_0
     try clear hfz49_1
     try clear hfz49_2
     try clear hfz49_3
     try clear hfz49_4
     try clear hfz50_0
     try clear hfz53_0
     try clear hx3_0
     try clear hx3_1
     try clear hx3_2
     try clear hx3_3
     try clear hx3_4
     try clear p2
     try clear p3
     try clear q3
     obtain ⟨x7_2,rfl,HA,HK2,BK1,BK2,HB⟩:=hrel
     cases gk with
     | zero=>exact absurd HA.out (by simp [spec_validHeap.l1])
     | succ k2 =>
      have H:=HA.out
      clear HA
      simp only [spec_validHeap.l1] at H
      by_cases c54 : x7_2 < (l1_0.length : Int)
      ·rw [if_pos c54] at H
       have c54b0 : decide (x7_2 < (l1_0.length : Int)) = true:=decide_eq_true c54
       clear c54
       replace H:=Option.bind_eq_some_iff.mp H
       obtain ⟨t8,A550,H⟩:=H
       try dsimp only at H
       have A55:=a0_ A550
       clear A550
       obtain ⟨ji56,hji56⟩ : ∃ j_ : Int,(wrap64 ((t8.length : Int) - 1)) = j_:=⟨_,rfl⟩
       replace H : (if 0 ≤ (ji56) then (if (ji56) < (t8.length : Int) then (if 0 ≤ (rd t8 (ji56)) then (if (rd t8 (ji56)) < (l1_0.length : Int) then (if ((rd_T43 l1_0 (rd t8 (ji56))).f3) ≥ 0 then (some false) else (spec_validHeap.l1 k2 (wrap64 (x7_2 + 1)) l0_0 l1_0)) else (none)) else (none)) else (none)) else (none)) = some r:=by first | (rw [hji56] at H;exact H) | (simp only [hji56] at H ⊢;exact H)
       (try rw [hji56] at A55)
       have hji56w : (IntKind.i64.wrap ((t8.length : Int) - 1)) = ji56:=(i64_w _).trans hji56
       by_cases c57 : 0 ≤ (ji56)
       ·rw [if_pos c57] at H
        have c57b0 : decide (0 ≤ (ji56)) = true:=decide_eq_true c57
        clear c57
        by_cases c58 : (ji56) < (t8.length : Int)
        ·rw [if_pos c58] at H
         have c58b0 : decide ((ji56) < (t8.length : Int)) = true:=decide_eq_true c58
         clear c58
         by_cases c59 : 0 ≤ (rd t8 (ji56))
         ·rw [if_pos c59] at H
          have c59b0 : decide (0 ≤ (rd t8 (ji56))) = true:=decide_eq_true c59
          clear c59
          by_cases c60 : (rd t8 (ji56)) < (l1_0.length : Int)
          ·rw [if_pos c60] at H
           have c60b0 : decide ((rd t8 (ji56)) < (l1_0.length : Int)) = true:=decide_eq_true c60
           clear c60
           by_cases c61 : ((rd_T43 l1_0 (rd t8 (ji56))).f3) ≥ 0
           ·rw [if_pos c61] at H
            have c61b0 : decide (0 ≤ ((rd_T43 l1_0 (rd t8 (ji56))).f3)) = true:=decide_eq_true c61
            clear c61
            obtain rfl:=Option.some.inj H
            have hnb62:=NB2_1.out
            have hnc62:=NB1_2.out
            have hcz63_0 : wr.cell? ⟨gb2,0,none⟩ = some (.slice A1_0 l1_0.length c1_0):=(blk_cell BK2.out 0).trans rfl
            have hfz63_0:=blk_frozen BK2.out 0
            go_wp2_with (first | (go_at_call 73;(with_reducible refine (spec_contexts.calls k2 _ _ l1_0 x7_2 t8 _ ?side1 ?side2 A55.out).mono ?_);(case side1=>exact cc_ (Kd.C_below HR1_0.out HB.out));(case side2=>exact HC1_0.out);rintro e w64 ⟨v9,rfl,ho0,hb⟩;have HO10:=a0_ (Kd.R_lower ho0 (below_size hbw_));replace BK1:=kb_ BK1 hb;replace BK2:=kb_ BK2 hb;replace HB:=a0_ (below_step hbw_ hb);(try clear hb);(try clear ho0);have hcz65_0 : w64.cell? ⟨gb2,0,none⟩ = some (.slice A1_0 l1_0.length c1_0):=(blk_cell BK2.out 0).trans rfl;have hfz65_0:=blk_frozen BK2.out 0;obtain ⟨Ao66,co66,eo66⟩:=Kd.R_slice HO10.out;subst eo66;have p11 : 0 ≤ ((ji56) : Int):=of_decide_eq_true (by first | (with_reducible assumption) | assumption);have q11 : (ji56) < (t8.length : Int):=of_decide_eq_true (by first | (with_reducible assumption) | assumption);obtain ⟨ad11,e11,hx11_0⟩:=Kd.at_int (Kd.R_reads' HO10.out).2.2 (ji56) p11 q11;cases e11;replace p11:=eq_true p11;replace q11:=eq_true q11;have p12 : 0 ≤ ((rd t8 (ji56)) : Int):=of_decide_eq_true (by first | (with_reducible assumption) | assumption);have q12 : (rd t8 (ji56)) < (l1_0.length : Int):=of_decide_eq_true (by first | (with_reducible assumption) | assumption);obtain ⟨ad12,e12,hx12_0,hx12_1,hx12_2,hx12_3,hx12_4⟩:=at_T43 HR1_0.out (rd t8 (ji56)) p12 q12;cases e12;replace hx12_0:=(HB.out.cell (World.block_lt_of_cell? w _ hx12_0)).trans hx12_0;replace hx12_1:=(HB.out.cell (World.block_lt_of_cell? w _ hx12_1)).trans hx12_1;replace hx12_2:=(HB.out.cell (World.block_lt_of_cell? w _ hx12_2)).trans hx12_2;replace hx12_3:=(HB.out.cell (World.block_lt_of_cell? w _ hx12_3)).trans hx12_3;replace hx12_4:=(HB.out.cell (World.block_lt_of_cell? w _ hx12_4)).trans hx12_4;replace p12:=eq_true p12;replace q12:=eq_true q12))
            repeat (go_quiet (first | (go_at_call 73;(with_reducible refine (spec_contexts.calls k2 _ _ l1_0 x7_2 t8 _ ?side1 ?side2 A55.out).mono ?_);(case side1=>exact cc_ (Kd.C_below HR1_0.out HB.out));(case side2=>exact HC1_0.out);rintro e w64 ⟨v9,rfl,ho0,hb⟩;have HO10:=a0_ (Kd.R_lower ho0 (below_size hbw_));replace BK1:=kb_ BK1 hb;replace BK2:=kb_ BK2 hb;replace HB:=a0_ (below_step hbw_ hb);(try clear hb);(try clear ho0);have hcz65_0 : w64.cell? ⟨gb2,0,none⟩ = some (.slice A1_0 l1_0.length c1_0):=(blk_cell BK2.out 0).trans rfl;have hfz65_0:=blk_frozen BK2.out 0;obtain ⟨Ao66,co66,eo66⟩:=Kd.R_slice HO10.out;subst eo66;have p11 : 0 ≤ ((ji56) : Int):=of_decide_eq_true (by first | (with_reducible assumption) | assumption);have q11 : (ji56) < (t8.length : Int):=of_decide_eq_true (by first | (with_reducible assumption) | assumption);obtain ⟨ad11,e11,hx11_0⟩:=Kd.at_int (Kd.R_reads' HO10.out).2.2 (ji56) p11 q11;cases e11;replace p11:=eq_true p11;replace q11:=eq_true q11;have p12 : 0 ≤ ((rd t8 (ji56)) : Int):=of_decide_eq_true (by first | (with_reducible assumption) | assumption);have q12 : (rd t8 (ji56)) < (l1_0.length : Int):=of_decide_eq_true (by first | (with_reducible assumption) | assumption);obtain ⟨ad12,e12,hx12_0,hx12_1,hx12_2,hx12_3,hx12_4⟩:=at_T43 HR1_0.out (rd t8 (ji56)) p12 q12;cases e12;replace hx12_0:=(HB.out.cell (World.block_lt_of_cell? w _ hx12_0)).trans hx12_0;replace hx12_1:=(HB.out.cell (World.block_lt_of_cell? w _ hx12_1)).trans hx12_1;replace hx12_2:=(HB.out.cell (World.block_lt_of_cell? w _ hx12_2)).trans hx12_2;replace hx12_3:=(HB.out.cell (World.block_lt_of_cell? w _ hx12_3)).trans hx12_3;replace hx12_4:=(HB.out.cell (World.block_lt_of_cell? w _ hx12_4)).trans hx12_4;replace p12:=eq_true p12;replace q12:=eq_true q12));try go_wp2_with (first | (go_at_call 73;(with_reducible refine (spec_contexts.calls k2 _ _ l1_0 x7_2 t8 _ ?side1 ?side2 A55.out).mono ?_);(case side1=>exact cc_ (Kd.C_below HR1_0.out HB.out));(case side2=>exact HC1_0.out);rintro e w64 ⟨v9,rfl,ho0,hb⟩;have HO10:=a0_ (Kd.R_lower ho0 (below_size hbw_));replace BK1:=kb_ BK1 hb;replace BK2:=kb_ BK2 hb;replace HB:=a0_ (below_step hbw_ hb);(try clear hb);(try clear ho0);have hcz65_0 : w64.cell? ⟨gb2,0,none⟩ = some (.slice A1_0 l1_0.length c1_0):=(blk_cell BK2.out 0).trans rfl;have hfz65_0:=blk_frozen BK2.out 0;obtain ⟨Ao66,co66,eo66⟩:=Kd.R_slice HO10.out;subst eo66;have p11 : 0 ≤ ((ji56) : Int):=of_decide_eq_true (by first | (with_reducible assumption) | assumption);have q11 : (ji56) < (t8.length : Int):=of_decide_eq_true (by first | (with_reducible assumption) | assumption);obtain ⟨ad11,e11,hx11_0⟩:=Kd.at_int (Kd.R_reads' HO10.out).2.2 (ji56) p11 q11;cases e11;replace p11:=eq_true p11;replace q11:=eq_true q11;have p12 : 0 ≤ ((rd t8 (ji56)) : Int):=of_decide_eq_true (by first | (with_reducible assumption) | assumption);have q12 : (rd t8 (ji56)) < (l1_0.length : Int):=of_decide_eq_true (by first | (with_reducible assumption) | assumption);obtain ⟨ad12,e12,hx12_0,hx12_1,hx12_2,hx12_3,hx12_4⟩:=at_T43 HR1_0.out (rd t8 (ji56)) p12 q12;cases e12;replace hx12_0:=(HB.out.cell (World.block_lt_of_cell? w _ hx12_0)).trans hx12_0;replace hx12_1:=(HB.out.cell (World.block_lt_of_cell? w _ hx12_1)).trans hx12_1;replace hx12_2:=(HB.out.cell (World.block_lt_of_cell? w _ hx12_2)).trans hx12_2;replace hx12_3:=(HB.out.cell (World.block_lt_of_cell? w _ hx12_3)).trans hx12_3;replace hx12_4:=(HB.out.cell (World.block_lt_of_cell? w _ hx12_4)).trans hx12_4;replace p12:=eq_true p12;replace q12:=eq_true q12)))
            go_ret
            exact ⟨by first | rfl | (simp [errW_none,errW_some] <;> rfl) | (simp only [← hji56];first | rfl | (simp [errW_none,errW_some] <;> rfl)) | (simp [*,errW_none,errW_some] <;> rfl),hbw_⟩
           ·rw [if_neg c61] at H
            have c61b0 : decide (0 ≤ ((rd_T43 l1_0 (rd t8 (ji56))).f3)) = false:=decide_eq_false c61
            clear c61
            have H':=a0_ H
            clear H
            have hnb67:=NB2_1.out
            have hnc67:=NB1_2.out
            have hcz68_0 : wr.cell? ⟨gb2,0,none⟩ = some (.slice A1_0 l1_0.length c1_0):=(blk_cell BK2.out 0).trans rfl
            have hfz68_0:=blk_frozen BK2.out 0
            go_wp2_with (first | (go_at_call 73;(with_reducible refine (spec_contexts.calls k2 _ _ l1_0 x7_2 t8 _ ?side1 ?side2 A55.out).mono ?_);(case side1=>exact cc_ (Kd.C_below HR1_0.out HB.out));(case side2=>exact HC1_0.out);rintro e w69 ⟨v9,rfl,ho0,hb⟩;have HO10:=a0_ (Kd.R_lower ho0 (below_size hbw_));replace BK1:=kb_ BK1 hb;replace BK2:=kb_ BK2 hb;replace HB:=a0_ (below_step hbw_ hb);(try clear hb);(try clear ho0);have hcz70_0 : w69.cell? ⟨gb2,0,none⟩ = some (.slice A1_0 l1_0.length c1_0):=(blk_cell BK2.out 0).trans rfl;have hfz70_0:=blk_frozen BK2.out 0;obtain ⟨Ao71,co71,eo71⟩:=Kd.R_slice HO10.out;subst eo71;have p11 : 0 ≤ ((ji56) : Int):=of_decide_eq_true (by first | (with_reducible assumption) | assumption);have q11 : (ji56) < (t8.length : Int):=of_decide_eq_true (by first | (with_reducible assumption) | assumption);obtain ⟨ad11,e11,hx11_0⟩:=Kd.at_int (Kd.R_reads' HO10.out).2.2 (ji56) p11 q11;cases e11;replace p11:=eq_true p11;replace q11:=eq_true q11;have p12 : 0 ≤ ((rd t8 (ji56)) : Int):=of_decide_eq_true (by first | (with_reducible assumption) | assumption);have q12 : (rd t8 (ji56)) < (l1_0.length : Int):=of_decide_eq_true (by first | (with_reducible assumption) | assumption);obtain ⟨ad12,e12,hx12_0,hx12_1,hx12_2,hx12_3,hx12_4⟩:=at_T43 HR1_0.out (rd t8 (ji56)) p12 q12;cases e12;replace hx12_0:=(HB.out.cell (World.block_lt_of_cell? w _ hx12_0)).trans hx12_0;replace hx12_1:=(HB.out.cell (World.block_lt_of_cell? w _ hx12_1)).trans hx12_1;replace hx12_2:=(HB.out.cell (World.block_lt_of_cell? w _ hx12_2)).trans hx12_2;replace hx12_3:=(HB.out.cell (World.block_lt_of_cell? w _ hx12_3)).trans hx12_3;replace hx12_4:=(HB.out.cell (World.block_lt_of_cell? w _ hx12_4)).trans hx12_4;replace p12:=eq_true p12;replace q12:=eq_true q12))
            repeat (go_quiet (first | (go_at_call 73;(with_reducible refine (spec_contexts.calls k2 _ _ l1_0 x7_2 t8 _ ?side1 ?side2 A55.out).mono ?_);(case side1=>exact cc_ (Kd.C_below HR1_0.out HB.out));(case side2=>exact HC1_0.out);rintro e w69 ⟨v9,rfl,ho0,hb⟩;have HO10:=a0_ (Kd.R_lower ho0 (below_size hbw_));replace BK1:=kb_ BK1 hb;replace BK2:=kb_ BK2 hb;replace HB:=a0_ (below_step hbw_ hb);(try clear hb);(try clear ho0);have hcz70_0 : w69.cell? ⟨gb2,0,none⟩ = some (.slice A1_0 l1_0.length c1_0):=(blk_cell BK2.out 0).trans rfl;have hfz70_0:=blk_frozen BK2.out 0;obtain ⟨Ao71,co71,eo71⟩:=Kd.R_slice HO10.out;subst eo71;have p11 : 0 ≤ ((ji56) : Int):=of_decide_eq_true (by first | (with_reducible assumption) | assumption);have q11 : (ji56) < (t8.length : Int):=of_decide_eq_true (by first | (with_reducible assumption) | assumption);obtain ⟨ad11,e11,hx11_0⟩:=Kd.at_int (Kd.R_reads' HO10.out).2.2 (ji56) p11 q11;cases e11;replace p11:=eq_true p11;replace q11:=eq_true q11;have p12 : 0 ≤ ((rd t8 (ji56)) : Int):=of_decide_eq_true (by first | (with_reducible assumption) | assumption);have q12 : (rd t8 (ji56)) < (l1_0.length : Int):=of_decide_eq_true (by first | (with_reducible assumption) | assumption);obtain ⟨ad12,e12,hx12_0,hx12_1,hx12_2,hx12_3,hx12_4⟩:=at_T43 HR1_0.out (rd t8 (ji56)) p12 q12;cases e12;replace hx12_0:=(HB.out.cell (World.block_lt_of_cell? w _ hx12_0)).trans hx12_0;replace hx12_1:=(HB.out.cell (World.block_lt_of_cell? w _ hx12_1)).trans hx12_1;replace hx12_2:=(HB.out.cell (World.block_lt_of_cell? w _ hx12_2)).trans hx12_2;replace hx12_3:=(HB.out.cell (World.block_lt_of_cell? w _ hx12_3)).trans hx12_3;replace hx12_4:=(HB.out.cell (World.block_lt_of_cell? w _ hx12_4)).trans hx12_4;replace p12:=eq_true p12;replace q12:=eq_true q12));try go_wp2_with (first | (go_at_call 73;(with_reducible refine (spec_contexts.calls k2 _ _ l1_0 x7_2 t8 _ ?side1 ?side2 A55.out).mono ?_);(case side1=>exact cc_ (Kd.C_below HR1_0.out HB.out));(case side2=>exact HC1_0.out);rintro e w69 ⟨v9,rfl,ho0,hb⟩;have HO10:=a0_ (Kd.R_lower ho0 (below_size hbw_));replace BK1:=kb_ BK1 hb;replace BK2:=kb_ BK2 hb;replace HB:=a0_ (below_step hbw_ hb);(try clear hb);(try clear ho0);have hcz70_0 : w69.cell? ⟨gb2,0,none⟩ = some (.slice A1_0 l1_0.length c1_0):=(blk_cell BK2.out 0).trans rfl;have hfz70_0:=blk_frozen BK2.out 0;obtain ⟨Ao71,co71,eo71⟩:=Kd.R_slice HO10.out;subst eo71;have p11 : 0 ≤ ((ji56) : Int):=of_decide_eq_true (by first | (with_reducible assumption) | assumption);have q11 : (ji56) < (t8.length : Int):=of_decide_eq_true (by first | (with_reducible assumption) | assumption);obtain ⟨ad11,e11,hx11_0⟩:=Kd.at_int (Kd.R_reads' HO10.out).2.2 (ji56) p11 q11;cases e11;replace p11:=eq_true p11;replace q11:=eq_true q11;have p12 : 0 ≤ ((rd t8 (ji56)) : Int):=of_decide_eq_true (by first | (with_reducible assumption) | assumption);have q12 : (rd t8 (ji56)) < (l1_0.length : Int):=of_decide_eq_true (by first | (with_reducible assumption) | assumption);obtain ⟨ad12,e12,hx12_0,hx12_1,hx12_2,hx12_3,hx12_4⟩:=at_T43 HR1_0.out (rd t8 (ji56)) p12 q12;cases e12;replace hx12_0:=(HB.out.cell (World.block_lt_of_cell? w _ hx12_0)).trans hx12_0;replace hx12_1:=(HB.out.cell (World.block_lt_of_cell? w _ hx12_1)).trans hx12_1;replace hx12_2:=(HB.out.cell (World.block_lt_of_cell? w _ hx12_2)).trans hx12_2;replace hx12_3:=(HB.out.cell (World.block_lt_of_cell? w _ hx12_3)).trans hx12_3;replace hx12_4:=(HB.out.cell (World.block_lt_of_cell? w _ hx12_4)).trans hx12_4;replace p12:=eq_true p12;replace q12:=eq_true q12)))
            go_roundg k2
            case measure=>have:=HK1.out;have:=HK2.out;omega
            case rel=>exact ⟨(wrap64 (x7_2 + 1)),(by first | rfl | (simp;done) | (simp [*];done)),H',⟨by have:=HK1.out;have:=HK2.out;omega⟩,⟨by (with_reducible repeat (first | refine blk_drewN ?_ _ | refine blk_drew ?_ | refine blk_alloc ?_ _));exact BK1.out⟩,⟨by (with_reducible repeat (first | refine blk_drewN ?_ _ | refine blk_drew ?_ | refine blk_alloc ?_ _));exact BK2.out⟩,⟨hbw_⟩⟩
          ·rw [if_neg c60] at H
           exact absurd H (by simp)
         ·rw [if_neg c59] at H
          exact absurd H (by simp)
        ·rw [if_neg c58] at H
         exact absurd H (by simp)
       ·rw [if_neg c57] at H
        exact absurd H (by simp)
      ·rw [if_neg c54] at H
       have c54b0 : decide (x7_2 < (l1_0.length : Int)) = false:=decide_eq_false c54
       clear c54
       replace H:=Option.bind_eq_some_iff.mp H
       obtain ⟨t13,A720,H⟩:=H
       try dsimp only at H
       have A72:=a0_ A720
       clear A720
       by_cases c73 : t13 = true
       ·subst c73
        have H1 : (some (decide ((l1_0.length : Int) ≤ 24))) = some r:=by rw [if_pos rfl] at H;exact H
        clear H
        have H:=H1
        clear H1
        obtain rfl:=Option.some.inj H
        have hnb74:=NB2_1.out
        have hnc74:=NB1_2.out
        have hcz75_0 : wr.cell? ⟨gb2,0,none⟩ = some (.slice A1_0 l1_0.length c1_0):=(blk_cell BK2.out 0).trans rfl
        have hfz75_0:=blk_frozen BK2.out 0
        have hcz76_0 : wr.cell? ⟨gb1,0,none⟩ = some (.slice A0_0 l0_0.length c0_0):=(blk_cell BK1.out 0).trans rfl
        have hfz76_0:=blk_frozen BK1.out 0
        go_wp2_with (first | (go_at_call 74;(with_reducible refine (spec_validTree.calls _ _ l0_0 true _ ?side1 ?side2 A72.out).mono ?_);(case side1=>exact cc_ (Kd.C_below HR0_0.out HB.out));(case side2=>exact HC0_0.out);rintro e w77 ⟨rfl,hb⟩;replace BK1:=kb_ BK1 hb;replace BK2:=kb_ BK2 hb;replace HB:=a0_ (below_step hbw_ hb);(try clear hb);have hcz78_0 : w77.cell? ⟨gb2,0,none⟩ = some (.slice A1_0 l1_0.length c1_0):=(blk_cell BK2.out 0).trans rfl;have hfz78_0:=blk_frozen BK2.out 0))
        repeat (go_quiet (first | (go_at_call 74;(with_reducible refine (spec_validTree.calls _ _ l0_0 true _ ?side1 ?side2 A72.out).mono ?_);(case side1=>exact cc_ (Kd.C_below HR0_0.out HB.out));(case side2=>exact HC0_0.out);rintro e w77 ⟨rfl,hb⟩;replace BK1:=kb_ BK1 hb;replace BK2:=kb_ BK2 hb;replace HB:=a0_ (below_step hbw_ hb);(try clear hb);have hcz78_0 : w77.cell? ⟨gb2,0,none⟩ = some (.slice A1_0 l1_0.length c1_0):=(blk_cell BK2.out 0).trans rfl;have hfz78_0:=blk_frozen BK2.out 0));try go_wp2_with (first | (go_at_call 74;(with_reducible refine (spec_validTree.calls _ _ l0_0 true _ ?side1 ?side2 A72.out).mono ?_);(case side1=>exact cc_ (Kd.C_below HR0_0.out HB.out));(case side2=>exact HC0_0.out);rintro e w77 ⟨rfl,hb⟩;replace BK1:=kb_ BK1 hb;replace BK2:=kb_ BK2 hb;replace HB:=a0_ (below_step hbw_ hb);(try clear hb);have hcz78_0 : w77.cell? ⟨gb2,0,none⟩ = some (.slice A1_0 l1_0.length c1_0):=(blk_cell BK2.out 0).trans rfl;have hfz78_0:=blk_frozen BK2.out 0)))
        go_ret
        exact ⟨by first | rfl | (simp [errW_none,errW_some] <;> rfl) | (simp [*,errW_none,errW_some] <;> rfl),hbw_⟩
       ·replace c73:=Bool.eq_false_iff.mpr c73
        subst c73
        have H1 : (some false) = some r:=by rw [if_neg (show ¬ (false = true) by decide)] at H;exact H
        clear H
        have H:=H1
        clear H1
        obtain rfl:=Option.some.inj H
        have hnb79:=NB2_1.out
        have hnc79:=NB1_2.out
        have hcz80_0 : wr.cell? ⟨gb2,0,none⟩ = some (.slice A1_0 l1_0.length c1_0):=(blk_cell BK2.out 0).trans rfl
        have hfz80_0:=blk_frozen BK2.out 0
        have hcz81_0 : wr.cell? ⟨gb1,0,none⟩ = some (.slice A0_0 l0_0.length c0_0):=(blk_cell BK1.out 0).trans rfl
        have hfz81_0:=blk_frozen BK1.out 0
        go_wp2_with (first | (go_at_call 74;(with_reducible refine (spec_validTree.calls _ _ l0_0 false _ ?side1 ?side2 A72.out).mono ?_);(case side1=>exact cc_ (Kd.C_below HR0_0.out HB.out));(case side2=>exact HC0_0.out);rintro e w82 ⟨rfl,hb⟩;replace BK1:=kb_ BK1 hb;replace BK2:=kb_ BK2 hb;replace HB:=a0_ (below_step hbw_ hb);(try clear hb);(try clear hb2);(try clear hk);(try clear hi)))
        repeat (go_quiet (first | (go_at_call 74;(with_reducible refine (spec_validTree.calls _ _ l0_0 false _ ?side1 ?side2 A72.out).mono ?_);(case side1=>exact cc_ (Kd.C_below HR0_0.out HB.out));(case side2=>exact HC0_0.out);rintro e w82 ⟨rfl,hb⟩;replace BK1:=kb_ BK1 hb;replace BK2:=kb_ BK2 hb;replace HB:=a0_ (below_step hbw_ hb);(try clear hb);(try clear hb2);(try clear hk);(try clear hi)));try go_wp2_with (first | (go_at_call 74;(with_reducible refine (spec_validTree.calls _ _ l0_0 false _ ?side1 ?side2 A72.out).mono ?_);(case side1=>exact cc_ (Kd.C_below HR0_0.out HB.out));(case side2=>exact HC0_0.out);rintro e w82 ⟨rfl,hb⟩;replace BK1:=kb_ BK1 hb;replace BK2:=kb_ BK2 hb;replace HB:=a0_ (below_step hbw_ hb);(try clear hb);(try clear hb2);(try clear hk);(try clear hi))))
        go_ret
        exact ⟨by first | rfl | (simp [errW_none,errW_some] <;> rfl) | (simp [*,errW_none,errW_some] <;> rfl),hbw_⟩
theorem spec_validHeap_l1 (t : List Cls) (h : List Fau) (hs : smT t = true) (hl : h.length ≤ 2097152) (hf : fsH t h = true) : ∀ d i,i + d = h.length → Ev (fun k=>spec_validHeap.l1 k (i : Int) t h) ((List.range' i d).all (endB h) && (vT t && decide (h.length ≤ 24))):=by
 intro d
 induction d with
 | zero =>
  intro i hi
  refine Ev.succ ?_
  simp only [spec_validHeap.l1]
  refine Ev.neg (by omega) (Ev.bind (Ev.const (show spec_validTree.f t = some (vT t) by rw [spec_validTree.f,if_pos hs])) ?_)
  have e : decide ((h.length : Int) ≤ 24) = decide (h.length ≤ 24):=decide_eq_decide.2 (by omega)
  cases vT t with
  | true=>exact Ev.pos rfl (Ev.const (by rw [e];simp))
  | false=>exact Ev.neg (by simp) (Ev.const (by simp))
 | succ d ih =>
  intro i hi
  have hlt : i < h.length:=by omega
  have hn:=ih (i + 1) (by omega)
  have hpos:=ctxL_pos h (i : Int) (by omega) (by omega)
  have hlen:=ctxL_len h (i : Int)
  have hlast:=ctxL_mem (fun x h0 h1=>(fsH_ctx hf x h0 h1).2) (i : Int) (by omega) _ (lastI_mem hpos)
  have hw : wrap64 (((ctxL h (i : Int)).length : Int) - 1) = (((ctxL h (i : Int)).length - 1 : Nat) : Int):=by rw [wrap_in (by omega) (by omega)];omega
  have hrd : rd (ctxL h (i : Int)) ((((ctxL h (i : Int)).length - 1 : Nat) : Int)) = lastI (ctxL h (i : Int)):=rd_nat _ _ (by omega)
  have hcx : (rd_T43 h (lastI (ctxL h (i : Int)))).f3 = ctxN h (lastI (ctxL h (i : Int))):=by simp [rd_T43,ctxN]
  rw [List.range'_succ,List.all_cons]
  refine Ev.succ ?_
  simp only [spec_validHeap.l1]
  refine Ev.pos (by omega) (Ev.bind (spec_contexts_ev h hl (fun x h0 h1=>(fsH_ctx hf x h0 h1).2) (i : Int) (by omega)) ?_)
  rw [hw,hrd,hcx]
  refine Ev.pos (by omega) (Ev.pos (by omega) (Ev.pos hlast.1 (Ev.pos hlast.2 ?_)))
  by_cases hq : ctxN h (lastI (ctxL h (i : Int))) ≥ 0
  ·rw [show endB h i = false from decide_eq_false (by omega)]
   exact Ev.pos hq (Ev.const (by simp))
  ·rw [show endB h i = true from decide_eq_true (by omega),wrap_succ (i:=(i : Int)) (n:=h.length) (by omega) (by omega) (by omega)]
   exact Ev.neg hq (by simpa using hn)
theorem spec_validHeap_l0 (t : List Cls) (h : List Fau) (hs : smT t = true) (ht : t.length ≤ 9223372036854775807) (hl : h.length ≤ 2097152) : ∀ d i,i + d = h.length → (∀ j,j < i → okF t h j (h.getD j z43) = true) → Ev (fun k=>spec_validHeap.l0 k (i : Int) t h) (vH t h):=by
 intro d
 induction d with
 | zero =>
  intro i hi hA
  obtain rfl : i = h.length:=by omega
  have hfs : fsH t h = true:=all_of hA
  refine Ev.succ ?_
  simp only [spec_validHeap.l0]
  refine Ev.neg (by omega) ?_
  have:=spec_validHeap_l1 t h hs hl hfs h.length 0 (by omega)
  unfold vH esH
  rw [hfs,Bool.true_and,List.range_eq_range']
  exact this
 | succ d ih =>
  intro i hi hA
  have hlt : i < h.length:=by omega
  have hrd : rd_T43 h (i : Int) = h.getD i z43:=by simp [rd_T43]
  refine Ev.succ ?_
  simp only [spec_validHeap.l0,hrd]
  have hdf : okF t h i (h.getD i z43) = (hasC t (h.getD i z43).f0 && ((decide (0 ≤ (h.getD i z43).f1) && decide ((h.getD i z43).f1 ≤ 99)) && (lnkB h (i : Int) (h.getD i z43).f2 && lnkB h (i : Int) (h.getD i z43).f3))):=rfl
  have hfl : okF t h i (h.getD i z43) = false → vH t h = false:=fun e=>by unfold vH fsH;rw [all_false hlt e];rfl
  refine Ev.pos (by omega) (Ev.pos (by omega) (Ev.bind (Ev.const (spec_hasClass_ev t _ ht)) ?_))
  cases q1 : hasC t (h.getD i z43).f0 with
  | false =>
   rw [hfl (by rw [hdf,q1];rfl)]
   exact Ev.neg (by simp) (Ev.const rfl)
  | true =>
   refine Ev.pos rfl (Ev.bind (Ev.const (spec_inRange_ev _ _ _)) ?_)
   cases q2 : (decide (0 ≤ (h.getD i z43).f1) && decide ((h.getD i z43).f1 ≤ 99)) with
   | false =>
    rw [hfl (by rw [hdf,q1,q2];rfl)]
    exact Ev.neg (by simp) (Ev.const rfl)
   | true =>
    refine Ev.pos rfl (Ev.bind (Ev.const (spec_validLinks_ev h i hlt (by omega))) ?_)
    cases q3 : (lnkB h (i : Int) (h.getD i z43).f2 && lnkB h (i : Int) (h.getD i z43).f3) with
    | false =>
     rw [hfl (by rw [hdf,q1,q2,q3];rfl)]
     exact Ev.neg (by simp) (Ev.const rfl)
    | true =>
     refine Ev.pos rfl ?_
     rw [wrap_succ (i:=(i : Int)) (n:=h.length) (by omega) (by omega) (by omega)]
     refine ih (i + 1) (by omega) (fun j hj=>?_)
     by_cases e : j = i
     ·subst e;rw [hdf,q1,q2,q3];rfl
     ·exact hA j (by omega)
theorem spec_validHeap_ev (t : List Cls) (h : List Fau) (hs : smT t = true) (ht : t.length ≤ 9223372036854775807) (hl : h.length ≤ 2097152) : Ev (fun k=>spec_validHeap.f k t h) (vH t h):=by
 have:=spec_validHeap_l0 t h hs ht hl h.length 0 (by omega) (fun j hj=>absurd hj (Nat.not_lt_zero _))
 exact this
end Go.Proofs.Ytmiholmfbjalfaa.P
namespace Go.Proofs.Ytmiholmfbjalfaa.P
open Go.RowKit Go.Proofs.YtmiholmfbjalfaaW.PrintWords Go.Proofs.YtmiholmfbjalfaaW.PrintLast Go.Proofs.YtmiholmfbjalfaaW.PrintMore
attribute [local go_sem] max2_int min2_int max_two min_two max_three min_three max_four min_four
set_option linter.unusedVariables false
set_option linter.unusedSimpArgs false
def spec_NewFault.f (k : Nat) (l0_0 : List (S87)) (l1_0 : List (S43)) (a2 : Int) (a3 : Int) : Option ((List (S43)) × Int × Bool):=(spec_added.f l1_0 a2 a3).bind fun t4=>((spec_validHeap.f k l0_0 l1_0).bind fun t8=>(if t8 = true then ((spec_validHeap.f k l0_0 t4).bind fun t9=>(if t9 = true then (some (t4,(l1_0.length : Int),true)) else (some (([] : List (S43)),(-1),false)))) else (some (([] : List (S43)),(-1),false))))
theorem spec_NewFault.mono : ∀ a0 a1 a2 a3 k,LeO (spec_NewFault.f k a0 a1 a2 a3) (spec_NewFault.f (k + 1) a0 a1 a2 a3):=by
 intro a0 a1 a2 a3 k
 unfold spec_NewFault.f
 repeat' first
   | (with_reducible exact spec_validHeap.mono _ _ _)
   | (with_reducible exact LeO.refl _)
   | (with_reducible exact LeO.none _)
   | (with_reducible refine LeO.ite ?_ ?_)
   | (with_reducible refine LeO.bind ?_ (fun _=>?_))
   | exact spec_validHeap.mono _ _ _
   | exact LeO.none _
   | refine LeO.ite ?_ ?_
   | refine LeO.bind ?_ (fun _=>?_)
set_option maxHeartbeats 8000000 in
set_option maxRecDepth 100000 in
theorem spec_NewFault.calls (k : Nat) (A0_0 : Option Addr) (c0_0 : Nat) (l0_0 : List (S87)) (A1_0 : Option Addr) (c1_0 : Nat) (l1_0 : List (S43)) (a2 : Int) (a3 : Int) (r1 : List (S43)) (r2 : Int) (r3 : Bool) (w : World) (hr0_0 : Kd.C k87 w A0_0 l0_0.length l0_0) (hc0_0 : l0_0.length ≤ c0_0) (hr1_0 : Kd.C k43 w A1_0 l1_0.length l1_0) (hc1_0 : l1_0.length ≤ c1_0) (h : spec_NewFault.f k l0_0 l1_0 a2 a3 = some (r1,r2,r3)) :
  Calls Try.prog 18 #[.agg #[.slice A0_0 l0_0.length c0_0],.agg #[.slice A1_0 l1_0.length c1_0],.int .i64 a2,.int .i64 a3] w fun e w'=>∃ v0_ : Value,e = .returned (.tuple #[.agg #[v0_],.int .i64 r2,.bool r3]) ∧ Kd.R k43 43 w' w.heap.size (fun _=>True) v0_ r1 ∧ Below w.heap.size w w':=by
 have hu25:=Try.underlying25
 have hu28:=Try.underlying28
 have HR0_0:=a0_ hr0_0
 have HC0_0:=a0_ hc0_0
 clear hr0_0 hc0_0
 have HR1_0:=a0_ hr1_0
 have HC1_0:=a0_ hc1_0
 clear hr1_0 hc1_0
 have HB:=a0_ (Below.refl w.heap.size w)
 have H : ((spec_added.f l1_0 a2 a3).bind fun t4=>((spec_validHeap.f k l0_0 l1_0).bind fun t8=>(if t8 = true then ((spec_validHeap.f k l0_0 t4).bind fun t9=>(if t9 = true then (some (t4,(l1_0.length : Int),true)) else (some (([] : List (S43)),(-1),false)))) else (some (([] : List (S43)),(-1),false))))) = some (r1,r2,r3):=h
 clear h
 replace H:=Option.bind_eq_some_iff.mp H
 obtain ⟨t4,A50,H⟩:=H
 try dsimp only at H
 have A5:=a0_ A50
 clear A50
 replace H:=Option.bind_eq_some_iff.mp H
 obtain ⟨t8,A60,H⟩:=H
 try dsimp only at H
 have A6:=a0_ A60
 clear A60
 by_cases c7 : t8 = true
 ·subst c7
  have H1 : ((spec_validHeap.f k l0_0 t4).bind fun t9=>(if t9 = true then (some (t4,(l1_0.length : Int),true)) else (some (([] : List (S43)),(-1),false)))) = some (r1,r2,r3):=by rw [if_pos rfl] at H;exact H
  clear H
  have H:=H1
  clear H1
  replace H:=Option.bind_eq_some_iff.mp H
  obtain ⟨t9,A80,H⟩:=H
  try dsimp only at H
  have A8:=a0_ A80
  clear A80
  by_cases c9 : t9 = true
  ·subst c9
   have H1 : (some (t4,(l1_0.length : Int),true)) = some (r1,r2,r3):=by rw [if_pos rfl] at H;exact H
   clear H
   have H:=H1
   clear H1
   simp only [Option.some.injEq,Prod.mk.injEq] at H
   obtain ⟨rfl,rfl,rfl⟩:=H
   go_enter Try.func18,Try.ntmps18
   try go_wp2_with (first | ((with_reducible refine gate_dst (N:=4) rfl ?_);refine box_event ?hg (N:=4) ?hd (cs:=#[.slice A0_0 l0_0.length c0_0]) (t:=25) ?hr ?_;(case hd=>rfl);(case hg=>rfl);(case hr=>first | (go_simp;done) | (go_simp;rfl));intro gb1 hg w10 hbox hb;have BK1:=a0_ (hbox);have GW1:=a0_ ((by rw [hg];exact (below_size hbw_) : w.heap.size ≤ gb1));have GE1:=a0_ ((by rw [hg];exact (below_size hbw_) : w.heap.size ≤ gb1));replace HB:=a0_ (below_step hbw_ hb);clear hb hbox hg) | ((with_reducible refine gate_dst (N:=5) rfl ?_);refine box_event ?hg (N:=5) ?hd (cs:=#[.slice A1_0 l1_0.length c1_0]) (t:=28) ?hr ?_;(case hd=>rfl);(case hg=>rfl);(case hr=>first | (go_simp;done) | (go_simp;rfl));intro gb2 hg w11 hbox hb;have n0_:=kb_ BK1 hb;have n1_:=a0_ (below_step hbw_ hb);have n2_:=a0_ (hbox);have n3_:=a0_ ((by rw [hg];exact (below_size hbw_) : w.heap.size ≤ gb2));have n4_:=a0_ ((by rw [hg];exact (below_size hbw_) : w.heap.size ≤ gb2));have n5_:=a0_ ((by rw [hg];exact Nat.ne_of_lt (blk_lt (bb_ BK1.out)) : gb1 ≠ gb2));have n6_:=a0_ ((by rw [hg];exact Nat.ne_of_gt (blk_lt (bb_ BK1.out)) : gb2 ≠ gb1));clear BK1 HB;have BK1:=n0_;have HB:=n1_;have BK2:=n2_;have GW2:=n3_;have GE2:=n4_;have NB1_2:=n5_;have NB2_1:=n6_;clear n0_ n1_ n2_ n3_ n4_ n5_ n6_;clear hb hbox hg) | ((with_reducible refine gate_dst (N:=8) rfl ?_);refine box_event ?hg (N:=8) ?hd (cs:=#[.slice none 0 0]) (t:=28) ?hr ?_;(case hd=>rfl);(case hg=>rfl);(case hr=>first | (go_simp;done) | (go_simp;rfl));intro gb3 hg w12 hbox hb;have n0_:=kb_ BK1 hb;have n1_:=kb_ BK2 hb;have n2_:=a0_ (below_step hbw_ hb);have n3_:=a0_ (hbox);have n4_:=a0_ ((by rw [hg];exact (below_size hbw_) : w.heap.size ≤ gb3));have n5_:=a0_ ((by rw [hg];exact (below_size hbw_) : w.heap.size ≤ gb3));have n6_:=a0_ ((by rw [hg];exact Nat.ne_of_lt (blk_lt (bb_ BK1.out)) : gb1 ≠ gb3));have n7_:=a0_ ((by rw [hg];exact Nat.ne_of_gt (blk_lt (bb_ BK1.out)) : gb3 ≠ gb1));have n8_:=a0_ ((by rw [hg];exact Nat.ne_of_lt (blk_lt (bb_ BK2.out)) : gb2 ≠ gb3));have n9_:=a0_ ((by rw [hg];exact Nat.ne_of_gt (blk_lt (bb_ BK2.out)) : gb3 ≠ gb2));clear BK1 BK2 HB;have BK1:=n0_;have BK2:=n1_;have HB:=n2_;have BK3:=n3_;have GW3:=n4_;have GE3:=n5_;have NB1_3:=n6_;have NB3_1:=n7_;have NB2_3:=n8_;have NB3_2:=n9_;clear n0_ n1_ n2_ n3_ n4_ n5_ n6_ n7_ n8_ n9_;clear hb hbox hg;have hnb13:=NB2_1.out;have hnc13:=NB1_2.out;have hnb14:=NB2_3.out;have hnc14:=NB3_2.out;have hcz15_0 : w12.cell? ⟨gb2,0,none⟩ = some (.slice A1_0 l1_0.length c1_0):=(blk_cell BK2.out 0).trans rfl;have hfz15_0:=blk_frozen BK2.out 0) | ((with_reducible refine gate_callee (f:=45) rfl ?_);refine goesL_ (some 15) rfl rfl Try.func45 (by kernel_rfl) rfl #[.agg #[.slice A1_0 l1_0.length c1_0],.int .i64 a2,.int .i64 a3] rfl lm_ ?_;(with_reducible refine (spec_added.calls _ _ l1_0 a2 a3 t4 _ ?side1 ?side2 A5.out).mono ?_);(case side1=>exact cc_ (Kd.C_below HR1_0.out HB.out));(case side2=>exact HC1_0.out);rintro e w16 ⟨v5,rfl,ho0,hb⟩;refine ⟨_,rfl,?_⟩;have HO6:=a0_ (Kd.R_lower ho0 (below_size hbw_));replace BK1:=kb_ BK1 hb;replace BK2:=kb_ BK2 hb;replace BK3:=kb_ BK3 hb;replace HB:=a0_ (below_step hbw_ hb);(try clear hb);(try clear ho0)) | ((with_reducible refine gate_dst (N:=11) rfl ?_);refine box_event ?hg (N:=11) ?hd (cs:=#[.slice none 0 0]) (t:=28) ?hr ?_;(case hd=>rfl);(case hg=>rfl);(case hr=>first | (go_simp;done) | (go_simp;rfl));intro gb7 hg w17 hbox hb;have n0_:=rb_ HO6 hb;have n1_:=kb_ BK1 hb;have n2_:=kb_ BK2 hb;have n3_:=kb_ BK3 hb;have n4_:=a0_ (below_step hbw_ hb);have n5_:=a0_ (hbox);have n6_:=a0_ ((by rw [hg];exact (below_size hbw_) : w.heap.size ≤ gb7));have n7_:=a0_ ((by rw [hg];exact (below_size hbw_) : w.heap.size ≤ gb7));have n8_:=a0_ ((by rw [hg];exact Nat.ne_of_lt (blk_lt (bb_ BK1.out)) : gb1 ≠ gb7));have n9_:=a0_ ((by rw [hg];exact Nat.ne_of_gt (blk_lt (bb_ BK1.out)) : gb7 ≠ gb1));have n10_:=a0_ ((by rw [hg];exact Nat.ne_of_lt (blk_lt (bb_ BK2.out)) : gb2 ≠ gb7));have n11_:=a0_ ((by rw [hg];exact Nat.ne_of_gt (blk_lt (bb_ BK2.out)) : gb7 ≠ gb2));have n12_:=a0_ ((by rw [hg];exact Nat.ne_of_lt (blk_lt (bb_ BK3.out)) : gb3 ≠ gb7));have n13_:=a0_ ((by rw [hg];exact Nat.ne_of_gt (blk_lt (bb_ BK3.out)) : gb7 ≠ gb3));clear HO6 BK1;clear BK2 BK3 HB;have HO6:=n0_;have BK1:=n1_;have BK2:=n2_;have BK3:=n3_;have HB:=n4_;have BK7:=n5_;have GW7:=n6_;have GE7:=n7_;have NB1_7:=n8_;have NB7_1:=n9_;have NB2_7:=n10_;have NB7_2:=n11_;have NB3_7:=n12_;have NB7_3:=n13_;clear n0_ n1_ n2_ n3_ n4_ n5_ n6_ n7_ n8_ n9_ n10_ n11_ n12_ n13_;clear hb hbox hg;obtain ⟨Ao18,co18,eo18⟩:=Kd.R_slice HO6.out;subst eo18;have hnb19:=NB7_1.out;have hnc19:=NB1_7.out;have hnb20:=NB7_2.out;have hnc20:=NB2_7.out;have hnb21:=NB7_3.out;have hnc21:=NB3_7.out;have hcz22_0 : w17.cell? ⟨gb7,0,none⟩ = some (.slice none 0 0):=(blk_cell BK7.out 0).trans rfl;have hfz22_0:=blk_frozen BK7.out 0;have hnb23:=NB1_3.out;have hnc23:=NB3_1.out;have hcz24_0 : w17.cell? ⟨gb1,0,none⟩ = some (.slice A0_0 l0_0.length c0_0):=(blk_cell BK1.out 0).trans rfl;have hfz24_0:=blk_frozen BK1.out 0;have hcz25_0 : w17.cell? ⟨gb2,0,none⟩ = some (.slice A1_0 l1_0.length c1_0):=(blk_cell BK2.out 0).trans rfl;have hfz25_0:=blk_frozen BK2.out 0) | ((with_reducible refine gate_callee (f:=46) rfl ?_);refine goesL_ (some 18) rfl rfl Try.func46 (by kernel_rfl) rfl #[.agg #[.slice A0_0 l0_0.length c0_0],.agg #[.slice A1_0 l1_0.length c1_0]] rfl lm_ ?_;(with_reducible refine (spec_validHeap.calls k _ _ l0_0 _ _ l1_0 true _ ?side1 ?side2 ?side3 ?side4 A6.out).mono ?_);(case side1=>exact Kd.C_below HR0_0.out hbw_);(case side2=>exact HC0_0.out);(case side3=>exact Kd.C_below HR1_0.out hbw_);(case side4=>exact HC1_0.out);rintro e w26 ⟨rfl,hb⟩;refine ⟨_,rfl,?_⟩;replace HO6:=a0_ (Kd.R_below (by (with_reducible repeat (first | apply Kd.R_alloc | apply Kd.R_drewN | apply Kd.R_drew));exact (Kd.R_mono (Kd.R_far (p:=⟨gb7,0,none⟩) (Kd.R_types HO6.out BK7.out (by decide)) (fun _ hk=>hk.2) (.slice Ao18 t4.length co18)) (fun _ h_=>h_.1))) hb);replace BK1:=kf_ BK1 NB1_7 hb;replace BK2:=kf_ BK2 NB2_7 hb;replace BK3:=kf_ BK3 NB3_7 hb;replace BK7:=a0_ (blk_below (g:=gb7) (o:=.cells #[.slice Ao18 t4.length co18] 28 (0,0)) (by (with_reducible repeat (first | refine blk_drewN ?_ _ | refine blk_drew ?_ | refine blk_alloc ?_ _));refine blk_put (cs:=#[.slice none 0 0]) ?_ 0 _ rfl;(with_reducible repeat (first | refine blk_drewN ?_ _ | refine blk_drew ?_ | refine blk_alloc ?_ _));exact BK7.out) hb);replace HB:=a0_ (below_step hbw_ hb);(try clear hb);have hcz27_0 : w26.cell? ⟨gb1,0,none⟩ = some (.slice A0_0 l0_0.length c0_0):=(blk_cell BK1.out 0).trans rfl;have hfz27_0:=blk_frozen BK1.out 0;have hcz28_0 : w26.cell? ⟨gb7,0,none⟩ = some (.slice Ao18 t4.length co18):=(blk_cell BK7.out 0).trans rfl;have hfz28_0:=blk_frozen BK7.out 0) | (go_at_call 46;(with_reducible refine (spec_validHeap.calls k _ _ l0_0 _ _ t4 true _ ?side1 ?side2 ?side3 ?side4 A8.out).mono ?_);(case side1=>exact cc_ (Kd.C_below HR0_0.out HB.out));(case side2=>exact HC0_0.out);(case side3=>exact cc_ (Kd.R_reads' HO6.out).2.2);(case side4=>exact (Kd.R_reads' HO6.out).2.1);rintro e w29 ⟨rfl,hb⟩;replace HO6:=rb_ HO6 hb;replace BK1:=kb_ BK1 hb;replace BK2:=kb_ BK2 hb;replace BK3:=kb_ BK3 hb;replace BK7:=kb_ BK7 hb;replace HB:=a0_ (below_step hbw_ hb);(try clear hb);(try clear hb2);(try clear hk);(try clear hi)))
   have n0_:=a0_ (Kd.R_drew HO6.out)
   have n1_:=a0_ (blk_drew BK1.out)
   have n2_:=a0_ (blk_drew BK2.out)
   have n3_:=a0_ (blk_drew BK3.out)
   have n4_:=a0_ (blk_drew BK7.out)
   have n5_:=a0_ (below_drew1 HB.out)
   clear HO6
   clear BK1
   clear BK2
   clear BK3
   clear BK7
   clear HB
   have HO6:=n0_
   have BK1:=n1_
   have BK2:=n2_
   have BK3:=n3_
   have BK7:=n4_
   have HB:=n5_
   clear n0_ n1_ n2_ n3_ n4_ n5_
   refine start_ (n:=7) (S:=fun w'=>w'.cell? ⟨gb7,0,none⟩ = some (.slice Ao18 t4.length co18) ∧ w'.cell? ⟨gb2,0,none⟩ = some (.slice A1_0 l1_0.length c1_0)) (ds:=[]) #[false,false,false,false,false,false,false] (by kernel_rfl) rfl rfl ⟨(blk_cell BK7.out 0).trans rfl,(blk_cell BK2.out 0).trans rfl⟩ (fun hHeld=>?_)
   generalize w29.drew = w30 at HO6 BK1 BK2 BK3 BK7 HB hHeld ⊢
   refine pure_ (i:=1) (N:=some 28) (v:=?_) (a':=?_) #[false,true,false,false,false,false,false] rfl rfl (by kernel_rfl) (fun _ _ _ h=>h) (Or.inl ⟨by rfl,?_⟩) ?_ ?_
   rotate_left
   ·intro w'
    go_simp
    with_reducible rfl
   rotate_left
   ·simp only [Act.put,s1_,s2_,s3_,i64_w,i32_w]
    rfl
   refine take_ (i:=0) (N:=some 27) (v:=?_) (a':=?_) #[true,true,false,false,false,false,false] rfl rfl (by kernel_rfl) (fun _ _ _ h=>h) (Or.inl ⟨by rfl,?_⟩) hHeld ?_ ?_
   rotate_left
   ·rintro w' ⟨s0,s1⟩
    go_simp
    with_reducible rfl
   rotate_left
   ·simp only [Act.put,s1_,s2_,s3_,i64_w,i32_w]
    rfl
   refine take_ (i:=2) (N:=some 29) (v:=?_) (a':=?_) #[true,true,true,false,false,false,false] rfl rfl (by kernel_rfl) (fun _ _ _ h=>h) (Or.inl ⟨by rfl,?_⟩) hHeld ?_ ?_
   rotate_left
   ·rintro w' ⟨s0,s1⟩
    go_simp
    with_reducible rfl
   rotate_left
   ·simp only [Act.put,s1_,s2_,s3_,i64_w,i32_w]
    rfl
   refine pure_ (i:=3) (N:=some 30) (v:=?_) (a':=?_) #[true,true,true,true,false,false,false] rfl rfl (by kernel_rfl) (fun _ _ _ h=>h) (Or.inl ⟨by rfl,?_⟩) ?_ ?_
   rotate_left
   ·intro w'
    go_simp
    with_reducible rfl
   rotate_left
   ·simp only [Act.put,s1_,s2_,s3_,i64_w,i32_w]
    rfl
   refine one_ (i:=4) (N:=none) #[true,true,true,true,true,false,false] rfl rfl (by kernel_rfl) (by decide) (fun K hK=>?_)
   have hs31 : w30.cell? ⟨gb3,0,none⟩ = some (.slice none 0 0):=(blk_cell BK3.out 0).trans rfl
   have hfs31:=blk_frozen BK3.out 0
   have hns31_0:=NB1_3.out
   have hns31_1:=NB2_3.out
   have hns31_3:=NB7_3.out
   have hms31_0:=NB3_1.out
   have hms31_1:=NB3_2.out
   have hms31_3:=NB3_7.out
   refine skip_ (w1:=?_) (by rfl) rfl ?_ ?_
   rotate_left
   ·go_simp
    rfl
   refine hK.out _ _ ⟨((cell_far (p:=⟨gb3,_,none⟩) NB7_3.out _).trans (hHeld.1)),((cell_far (p:=⟨gb3,_,none⟩) NB2_3.out _).trans (hHeld.2))⟩ (fun hHeld=>?_)
   clear hK K
   refine pure_ (i:=5) (N:=some 9) (v:=?_) (a':=?_) #[true,true,true,true,true,true,false] rfl rfl (by kernel_rfl) (fun _ _ _ h=>h) (Or.inl ⟨by rfl,?_⟩) ?_ ?_
   rotate_left
   ·intro w'
    go_simp
    with_reducible rfl
   rotate_left
   ·simp only [Act.put,s1_,s2_,s3_,i64_w,i32_w]
    rfl
   refine pure_ (i:=6) (N:=some 10) (v:=?_) (a':=?_) #[true,true,true,true,true,true,true] rfl rfl (by kernel_rfl) (fun _ _ _ h=>h) (Or.inl ⟨by rfl,?_⟩) ?_ ?_
   rotate_left
   ·intro w'
    go_simp
    with_reducible rfl
   rotate_left
   ·simp only [Act.put,s1_,s2_,s3_,i64_w,i32_w]
    rfl
   refine done_ (by kernel_rfl) ?_
   try go_wp2
   refine bodyPost_ret (results_ctt rfl _ _ gb3 28 #[.slice Ao18 t4.length co18] (0,0) _ rfl (by (with_reducible repeat (first | refine blk_drewN ?_ _ | refine blk_drew ?_ | refine blk_alloc ?_ _));refine blk_put (cs:=#[.slice none 0 0]) ?_ 0 _ rfl;(with_reducible repeat (first | refine blk_drewN ?_ _ | refine blk_drew ?_ | refine blk_alloc ?_ _));exact BK3.out) Try.underlying28 rfl (by kernel_rfl)) rfl ?_
   exact ⟨_,by first | rfl | (simp [errW_none,errW_some] <;> rfl) | (simp [*,errW_none,errW_some] <;> rfl),by (with_reducible repeat (first | apply Kd.R_alloc | apply Kd.R_drewN | apply Kd.R_drew));exact Kd.R_mono (Kd.R_far (p:=⟨gb3,0,none⟩) (Kd.R_types HO6.out BK3.out (by decide)) (fun _ hk=>hk.2) (.slice Ao18 t4.length co18)) (fun _ hk=>trivial),hbw_⟩
  ·replace c9:=Bool.eq_false_iff.mpr c9
   subst c9
   have H1 : (some (([] : List (S43)),(-1),false)) = some (r1,r2,r3):=by rw [if_neg (show ¬ (false = true) by decide)] at H;exact H
   clear H
   have H:=H1
   clear H1
   simp only [Option.some.injEq,Prod.mk.injEq] at H
   obtain ⟨rfl,rfl,rfl⟩:=H
   go_enter Try.func18,Try.ntmps18
   go_wp2_with (first | ((with_reducible refine gate_dst (N:=4) rfl ?_);refine box_event ?hg (N:=4) ?hd (cs:=#[.slice A0_0 l0_0.length c0_0]) (t:=25) ?hr ?_;(case hd=>rfl);(case hg=>rfl);(case hr=>first | (go_simp;done) | (go_simp;rfl));intro gb1 hg w32 hbox hb;have BK1:=a0_ (hbox);have GW1:=a0_ ((by rw [hg];exact (below_size hbw_) : w.heap.size ≤ gb1));have GE1:=a0_ ((by rw [hg];exact (below_size hbw_) : w.heap.size ≤ gb1));replace HB:=a0_ (below_step hbw_ hb);clear hb hbox hg) | ((with_reducible refine gate_dst (N:=5) rfl ?_);refine box_event ?hg (N:=5) ?hd (cs:=#[.slice A1_0 l1_0.length c1_0]) (t:=28) ?hr ?_;(case hd=>rfl);(case hg=>rfl);(case hr=>first | (go_simp;done) | (go_simp;rfl));intro gb2 hg w33 hbox hb;have n0_:=kb_ BK1 hb;have n1_:=a0_ (below_step hbw_ hb);have n2_:=a0_ (hbox);have n3_:=a0_ ((by rw [hg];exact (below_size hbw_) : w.heap.size ≤ gb2));have n4_:=a0_ ((by rw [hg];exact (below_size hbw_) : w.heap.size ≤ gb2));have n5_:=a0_ ((by rw [hg];exact Nat.ne_of_lt (blk_lt (bb_ BK1.out)) : gb1 ≠ gb2));have n6_:=a0_ ((by rw [hg];exact Nat.ne_of_gt (blk_lt (bb_ BK1.out)) : gb2 ≠ gb1));clear BK1 HB;have BK1:=n0_;have HB:=n1_;have BK2:=n2_;have GW2:=n3_;have GE2:=n4_;have NB1_2:=n5_;have NB2_1:=n6_;clear n0_ n1_ n2_ n3_ n4_ n5_ n6_;clear hb hbox hg) | ((with_reducible refine gate_dst (N:=8) rfl ?_);refine box_event ?hg (N:=8) ?hd (cs:=#[.slice none 0 0]) (t:=28) ?hr ?_;(case hd=>rfl);(case hg=>rfl);(case hr=>first | (go_simp;done) | (go_simp;rfl));intro gb3 hg w34 hbox hb;have n0_:=kb_ BK1 hb;have n1_:=kb_ BK2 hb;have n2_:=a0_ (below_step hbw_ hb);have n3_:=a0_ (hbox);have n4_:=a0_ ((by rw [hg];exact (below_size hbw_) : w.heap.size ≤ gb3));have n5_:=a0_ ((by rw [hg];exact (below_size hbw_) : w.heap.size ≤ gb3));have n6_:=a0_ ((by rw [hg];exact Nat.ne_of_lt (blk_lt (bb_ BK1.out)) : gb1 ≠ gb3));have n7_:=a0_ ((by rw [hg];exact Nat.ne_of_gt (blk_lt (bb_ BK1.out)) : gb3 ≠ gb1));have n8_:=a0_ ((by rw [hg];exact Nat.ne_of_lt (blk_lt (bb_ BK2.out)) : gb2 ≠ gb3));have n9_:=a0_ ((by rw [hg];exact Nat.ne_of_gt (blk_lt (bb_ BK2.out)) : gb3 ≠ gb2));clear BK1 BK2 HB;have BK1:=n0_;have BK2:=n1_;have HB:=n2_;have BK3:=n3_;have GW3:=n4_;have GE3:=n5_;have NB1_3:=n6_;have NB3_1:=n7_;have NB2_3:=n8_;have NB3_2:=n9_;clear n0_ n1_ n2_ n3_ n4_ n5_ n6_ n7_ n8_ n9_;clear hb hbox hg;have hnb35:=NB2_1.out;have hnc35:=NB1_2.out;have hnb36:=NB2_3.out;have hnc36:=NB3_2.out;have hcz37_0 : w34.cell? ⟨gb2,0,none⟩ = some (.slice A1_0 l1_0.length c1_0):=(blk_cell BK2.out 0).trans rfl;have hfz37_0:=blk_frozen BK2.out 0) | ((with_reducible refine gate_callee (f:=45) rfl ?_);refine goesL_ (some 15) rfl rfl Try.func45 (by kernel_rfl) rfl #[.agg #[.slice A1_0 l1_0.length c1_0],.int .i64 a2,.int .i64 a3] rfl lm_ ?_;(with_reducible refine (spec_added.calls _ _ l1_0 a2 a3 t4 _ ?side1 ?side2 A5.out).mono ?_);(case side1=>exact cc_ (Kd.C_below HR1_0.out HB.out));(case side2=>exact HC1_0.out);rintro e w38 ⟨v5,rfl,ho0,hb⟩;refine ⟨_,rfl,?_⟩;have HO6:=a0_ (Kd.R_lower ho0 (below_size hbw_));replace BK1:=kb_ BK1 hb;replace BK2:=kb_ BK2 hb;replace BK3:=kb_ BK3 hb;replace HB:=a0_ (below_step hbw_ hb);(try clear hb);(try clear ho0)) | ((with_reducible refine gate_dst (N:=11) rfl ?_);refine box_event ?hg (N:=11) ?hd (cs:=#[.slice none 0 0]) (t:=28) ?hr ?_;(case hd=>rfl);(case hg=>rfl);(case hr=>first | (go_simp;done) | (go_simp;rfl));intro gb7 hg w39 hbox hb;have n0_:=rb_ HO6 hb;have n1_:=kb_ BK1 hb;have n2_:=kb_ BK2 hb;have n3_:=kb_ BK3 hb;have n4_:=a0_ (below_step hbw_ hb);have n5_:=a0_ (hbox);have n6_:=a0_ ((by rw [hg];exact (below_size hbw_) : w.heap.size ≤ gb7));have n7_:=a0_ ((by rw [hg];exact (below_size hbw_) : w.heap.size ≤ gb7));have n8_:=a0_ ((by rw [hg];exact Nat.ne_of_lt (blk_lt (bb_ BK1.out)) : gb1 ≠ gb7));have n9_:=a0_ ((by rw [hg];exact Nat.ne_of_gt (blk_lt (bb_ BK1.out)) : gb7 ≠ gb1));have n10_:=a0_ ((by rw [hg];exact Nat.ne_of_lt (blk_lt (bb_ BK2.out)) : gb2 ≠ gb7));have n11_:=a0_ ((by rw [hg];exact Nat.ne_of_gt (blk_lt (bb_ BK2.out)) : gb7 ≠ gb2));have n12_:=a0_ ((by rw [hg];exact Nat.ne_of_lt (blk_lt (bb_ BK3.out)) : gb3 ≠ gb7));have n13_:=a0_ ((by rw [hg];exact Nat.ne_of_gt (blk_lt (bb_ BK3.out)) : gb7 ≠ gb3));clear HO6 BK1;clear BK2 BK3 HB;have HO6:=n0_;have BK1:=n1_;have BK2:=n2_;have BK3:=n3_;have HB:=n4_;have BK7:=n5_;have GW7:=n6_;have GE7:=n7_;have NB1_7:=n8_;have NB7_1:=n9_;have NB2_7:=n10_;have NB7_2:=n11_;have NB3_7:=n12_;have NB7_3:=n13_;clear n0_ n1_ n2_ n3_ n4_ n5_ n6_ n7_ n8_ n9_ n10_ n11_ n12_ n13_;clear hb hbox hg;obtain ⟨Ao40,co40,eo40⟩:=Kd.R_slice HO6.out;subst eo40;have hnb41:=NB7_1.out;have hnc41:=NB1_7.out;have hnb42:=NB7_2.out;have hnc42:=NB2_7.out;have hnb43:=NB7_3.out;have hnc43:=NB3_7.out;have hcz44_0 : w39.cell? ⟨gb7,0,none⟩ = some (.slice none 0 0):=(blk_cell BK7.out 0).trans rfl;have hfz44_0:=blk_frozen BK7.out 0;have hnb45:=NB1_3.out;have hnc45:=NB3_1.out;have hcz46_0 : w39.cell? ⟨gb1,0,none⟩ = some (.slice A0_0 l0_0.length c0_0):=(blk_cell BK1.out 0).trans rfl;have hfz46_0:=blk_frozen BK1.out 0;have hcz47_0 : w39.cell? ⟨gb2,0,none⟩ = some (.slice A1_0 l1_0.length c1_0):=(blk_cell BK2.out 0).trans rfl;have hfz47_0:=blk_frozen BK2.out 0) | ((with_reducible refine gate_callee (f:=46) rfl ?_);refine goesL_ (some 18) rfl rfl Try.func46 (by kernel_rfl) rfl #[.agg #[.slice A0_0 l0_0.length c0_0],.agg #[.slice A1_0 l1_0.length c1_0]] rfl lm_ ?_;(with_reducible refine (spec_validHeap.calls k _ _ l0_0 _ _ l1_0 true _ ?side1 ?side2 ?side3 ?side4 A6.out).mono ?_);(case side1=>exact Kd.C_below HR0_0.out hbw_);(case side2=>exact HC0_0.out);(case side3=>exact Kd.C_below HR1_0.out hbw_);(case side4=>exact HC1_0.out);rintro e w48 ⟨rfl,hb⟩;refine ⟨_,rfl,?_⟩;replace HO6:=a0_ (Kd.R_below (by (with_reducible repeat (first | apply Kd.R_alloc | apply Kd.R_drewN | apply Kd.R_drew));exact (Kd.R_mono (Kd.R_far (p:=⟨gb7,0,none⟩) (Kd.R_types HO6.out BK7.out (by decide)) (fun _ hk=>hk.2) (.slice Ao40 t4.length co40)) (fun _ h_=>h_.1))) hb);replace BK1:=kf_ BK1 NB1_7 hb;replace BK2:=kf_ BK2 NB2_7 hb;replace BK3:=kf_ BK3 NB3_7 hb;replace BK7:=a0_ (blk_below (g:=gb7) (o:=.cells #[.slice Ao40 t4.length co40] 28 (0,0)) (by (with_reducible repeat (first | refine blk_drewN ?_ _ | refine blk_drew ?_ | refine blk_alloc ?_ _));refine blk_put (cs:=#[.slice none 0 0]) ?_ 0 _ rfl;(with_reducible repeat (first | refine blk_drewN ?_ _ | refine blk_drew ?_ | refine blk_alloc ?_ _));exact BK7.out) hb);replace HB:=a0_ (below_step hbw_ hb);(try clear hb);have hcz49_0 : w48.cell? ⟨gb1,0,none⟩ = some (.slice A0_0 l0_0.length c0_0):=(blk_cell BK1.out 0).trans rfl;have hfz49_0:=blk_frozen BK1.out 0;have hcz50_0 : w48.cell? ⟨gb7,0,none⟩ = some (.slice Ao40 t4.length co40):=(blk_cell BK7.out 0).trans rfl;have hfz50_0:=blk_frozen BK7.out 0) | (go_at_call 46;(with_reducible refine (spec_validHeap.calls k _ _ l0_0 _ _ t4 false _ ?side1 ?side2 ?side3 ?side4 A8.out).mono ?_);(case side1=>exact cc_ (Kd.C_below HR0_0.out HB.out));(case side2=>exact HC0_0.out);(case side3=>exact cc_ (Kd.R_reads' HO6.out).2.2);(case side4=>exact (Kd.R_reads' HO6.out).2.1);rintro e w51 ⟨rfl,hb⟩;replace HO6:=rb_ HO6 hb;replace BK1:=kb_ BK1 hb;replace BK2:=kb_ BK2 hb;replace BK3:=kb_ BK3 hb;replace BK7:=kb_ BK7 hb;replace HB:=a0_ (below_step hbw_ hb);(try clear hb);have hcz52_0 : w51.cell? ⟨gb3,0,none⟩ = some (.slice none 0 0):=(blk_cell BK3.out 0).trans rfl;have hfz52_0:=blk_frozen BK3.out 0))
   refine bodyPost_ret (results_ctt rfl _ _ gb3 28 #[.slice none 0 0] (0,0) _ rfl (by (with_reducible repeat (first | refine blk_drewN ?_ _ | refine blk_drew ?_ | refine blk_alloc ?_ _));refine blk_put (cs:=#[.slice none 0 0]) ?_ 0 _ rfl;(with_reducible repeat (first | refine blk_drewN ?_ _ | refine blk_drew ?_ | refine blk_alloc ?_ _));exact BK3.out) Try.underlying28 rfl (by kernel_rfl)) rfl ?_
   exact ⟨_,by first | rfl | (simp [errW_none,errW_some] <;> rfl) | (simp [*,errW_none,errW_some] <;> rfl),by first | exact Kd.R_nil _ _ _ _ _ | exact Kd.N_nil _ _ _ _ _ | exact Kd.V_nil _ _ _ _ _ | exact Kd.Q_nil _ _ _ _ _ | exact Kd.S_nil _ _ _ _ _,hbw_⟩
 ·replace c7:=Bool.eq_false_iff.mpr c7
  subst c7
  have H1 : (some (([] : List (S43)),(-1),false)) = some (r1,r2,r3):=by rw [if_neg (show ¬ (false = true) by decide)] at H;exact H
  clear H
  have H:=H1
  clear H1
  simp only [Option.some.injEq,Prod.mk.injEq] at H
  obtain ⟨rfl,rfl,rfl⟩:=H
  go_enter Try.func18,Try.ntmps18
  go_wp2_with (first | ((with_reducible refine gate_dst (N:=4) rfl ?_);refine box_event ?hg (N:=4) ?hd (cs:=#[.slice A0_0 l0_0.length c0_0]) (t:=25) ?hr ?_;(case hd=>rfl);(case hg=>rfl);(case hr=>first | (go_simp;done) | (go_simp;rfl));intro gb1 hg w53 hbox hb;have BK1:=a0_ (hbox);have GW1:=a0_ ((by rw [hg];exact (below_size hbw_) : w.heap.size ≤ gb1));have GE1:=a0_ ((by rw [hg];exact (below_size hbw_) : w.heap.size ≤ gb1));replace HB:=a0_ (below_step hbw_ hb);clear hb hbox hg) | ((with_reducible refine gate_dst (N:=5) rfl ?_);refine box_event ?hg (N:=5) ?hd (cs:=#[.slice A1_0 l1_0.length c1_0]) (t:=28) ?hr ?_;(case hd=>rfl);(case hg=>rfl);(case hr=>first | (go_simp;done) | (go_simp;rfl));intro gb2 hg w54 hbox hb;have n0_:=kb_ BK1 hb;have n1_:=a0_ (below_step hbw_ hb);have n2_:=a0_ (hbox);have n3_:=a0_ ((by rw [hg];exact (below_size hbw_) : w.heap.size ≤ gb2));have n4_:=a0_ ((by rw [hg];exact (below_size hbw_) : w.heap.size ≤ gb2));have n5_:=a0_ ((by rw [hg];exact Nat.ne_of_lt (blk_lt (bb_ BK1.out)) : gb1 ≠ gb2));have n6_:=a0_ ((by rw [hg];exact Nat.ne_of_gt (blk_lt (bb_ BK1.out)) : gb2 ≠ gb1));clear BK1 HB;have BK1:=n0_;have HB:=n1_;have BK2:=n2_;have GW2:=n3_;have GE2:=n4_;have NB1_2:=n5_;have NB2_1:=n6_;clear n0_ n1_ n2_ n3_ n4_ n5_ n6_;clear hb hbox hg) | ((with_reducible refine gate_dst (N:=8) rfl ?_);refine box_event ?hg (N:=8) ?hd (cs:=#[.slice none 0 0]) (t:=28) ?hr ?_;(case hd=>rfl);(case hg=>rfl);(case hr=>first | (go_simp;done) | (go_simp;rfl));intro gb3 hg w55 hbox hb;have n0_:=kb_ BK1 hb;have n1_:=kb_ BK2 hb;have n2_:=a0_ (below_step hbw_ hb);have n3_:=a0_ (hbox);have n4_:=a0_ ((by rw [hg];exact (below_size hbw_) : w.heap.size ≤ gb3));have n5_:=a0_ ((by rw [hg];exact (below_size hbw_) : w.heap.size ≤ gb3));have n6_:=a0_ ((by rw [hg];exact Nat.ne_of_lt (blk_lt (bb_ BK1.out)) : gb1 ≠ gb3));have n7_:=a0_ ((by rw [hg];exact Nat.ne_of_gt (blk_lt (bb_ BK1.out)) : gb3 ≠ gb1));have n8_:=a0_ ((by rw [hg];exact Nat.ne_of_lt (blk_lt (bb_ BK2.out)) : gb2 ≠ gb3));have n9_:=a0_ ((by rw [hg];exact Nat.ne_of_gt (blk_lt (bb_ BK2.out)) : gb3 ≠ gb2));clear BK1 BK2 HB;have BK1:=n0_;have BK2:=n1_;have HB:=n2_;have BK3:=n3_;have GW3:=n4_;have GE3:=n5_;have NB1_3:=n6_;have NB3_1:=n7_;have NB2_3:=n8_;have NB3_2:=n9_;clear n0_ n1_ n2_ n3_ n4_ n5_ n6_ n7_ n8_ n9_;clear hb hbox hg;have hnb56:=NB2_1.out;have hnc56:=NB1_2.out;have hnb57:=NB2_3.out;have hnc57:=NB3_2.out;have hcz58_0 : w55.cell? ⟨gb2,0,none⟩ = some (.slice A1_0 l1_0.length c1_0):=(blk_cell BK2.out 0).trans rfl;have hfz58_0:=blk_frozen BK2.out 0) | ((with_reducible refine gate_callee (f:=45) rfl ?_);refine goesL_ (some 15) rfl rfl Try.func45 (by kernel_rfl) rfl #[.agg #[.slice A1_0 l1_0.length c1_0],.int .i64 a2,.int .i64 a3] rfl lm_ ?_;(with_reducible refine (spec_added.calls _ _ l1_0 a2 a3 t4 _ ?side1 ?side2 A5.out).mono ?_);(case side1=>exact cc_ (Kd.C_below HR1_0.out HB.out));(case side2=>exact HC1_0.out);rintro e w59 ⟨v5,rfl,ho0,hb⟩;refine ⟨_,rfl,?_⟩;have HO6:=a0_ (Kd.R_lower ho0 (below_size hbw_));replace BK1:=kb_ BK1 hb;replace BK2:=kb_ BK2 hb;replace BK3:=kb_ BK3 hb;replace HB:=a0_ (below_step hbw_ hb);(try clear hb);(try clear ho0)) | ((with_reducible refine gate_dst (N:=11) rfl ?_);refine box_event ?hg (N:=11) ?hd (cs:=#[.slice none 0 0]) (t:=28) ?hr ?_;(case hd=>rfl);(case hg=>rfl);(case hr=>first | (go_simp;done) | (go_simp;rfl));intro gb7 hg w60 hbox hb;have n0_:=rb_ HO6 hb;have n1_:=kb_ BK1 hb;have n2_:=kb_ BK2 hb;have n3_:=kb_ BK3 hb;have n4_:=a0_ (below_step hbw_ hb);have n5_:=a0_ (hbox);have n6_:=a0_ ((by rw [hg];exact (below_size hbw_) : w.heap.size ≤ gb7));have n7_:=a0_ ((by rw [hg];exact (below_size hbw_) : w.heap.size ≤ gb7));have n8_:=a0_ ((by rw [hg];exact Nat.ne_of_lt (blk_lt (bb_ BK1.out)) : gb1 ≠ gb7));have n9_:=a0_ ((by rw [hg];exact Nat.ne_of_gt (blk_lt (bb_ BK1.out)) : gb7 ≠ gb1));have n10_:=a0_ ((by rw [hg];exact Nat.ne_of_lt (blk_lt (bb_ BK2.out)) : gb2 ≠ gb7));have n11_:=a0_ ((by rw [hg];exact Nat.ne_of_gt (blk_lt (bb_ BK2.out)) : gb7 ≠ gb2));have n12_:=a0_ ((by rw [hg];exact Nat.ne_of_lt (blk_lt (bb_ BK3.out)) : gb3 ≠ gb7));have n13_:=a0_ ((by rw [hg];exact Nat.ne_of_gt (blk_lt (bb_ BK3.out)) : gb7 ≠ gb3));clear HO6 BK1;clear BK2 BK3 HB;have HO6:=n0_;have BK1:=n1_;have BK2:=n2_;have BK3:=n3_;have HB:=n4_;have BK7:=n5_;have GW7:=n6_;have GE7:=n7_;have NB1_7:=n8_;have NB7_1:=n9_;have NB2_7:=n10_;have NB7_2:=n11_;have NB3_7:=n12_;have NB7_3:=n13_;clear n0_ n1_ n2_ n3_ n4_ n5_ n6_ n7_ n8_ n9_ n10_ n11_ n12_ n13_;clear hb hbox hg;obtain ⟨Ao61,co61,eo61⟩:=Kd.R_slice HO6.out;subst eo61;have hnb62:=NB7_1.out;have hnc62:=NB1_7.out;have hnb63:=NB7_2.out;have hnc63:=NB2_7.out;have hnb64:=NB7_3.out;have hnc64:=NB3_7.out;have hcz65_0 : w60.cell? ⟨gb7,0,none⟩ = some (.slice none 0 0):=(blk_cell BK7.out 0).trans rfl;have hfz65_0:=blk_frozen BK7.out 0;have hnb66:=NB1_3.out;have hnc66:=NB3_1.out;have hcz67_0 : w60.cell? ⟨gb1,0,none⟩ = some (.slice A0_0 l0_0.length c0_0):=(blk_cell BK1.out 0).trans rfl;have hfz67_0:=blk_frozen BK1.out 0;have hcz68_0 : w60.cell? ⟨gb2,0,none⟩ = some (.slice A1_0 l1_0.length c1_0):=(blk_cell BK2.out 0).trans rfl;have hfz68_0:=blk_frozen BK2.out 0) | ((with_reducible refine gate_callee (f:=46) rfl ?_);refine goesL_ (some 18) rfl rfl Try.func46 (by kernel_rfl) rfl #[.agg #[.slice A0_0 l0_0.length c0_0],.agg #[.slice A1_0 l1_0.length c1_0]] rfl lm_ ?_;(with_reducible refine (spec_validHeap.calls k _ _ l0_0 _ _ l1_0 false _ ?side1 ?side2 ?side3 ?side4 A6.out).mono ?_);(case side1=>exact Kd.C_below HR0_0.out hbw_);(case side2=>exact HC0_0.out);(case side3=>exact Kd.C_below HR1_0.out hbw_);(case side4=>exact HC1_0.out);rintro e w69 ⟨rfl,hb⟩;refine ⟨_,rfl,?_⟩;replace HO6:=a0_ (Kd.R_below (by (with_reducible repeat (first | apply Kd.R_alloc | apply Kd.R_drewN | apply Kd.R_drew));exact (Kd.R_mono (Kd.R_far (p:=⟨gb7,0,none⟩) (Kd.R_types HO6.out BK7.out (by decide)) (fun _ hk=>hk.2) (.slice Ao61 t4.length co61)) (fun _ h_=>h_.1))) hb);replace BK1:=kf_ BK1 NB1_7 hb;replace BK2:=kf_ BK2 NB2_7 hb;replace BK3:=kf_ BK3 NB3_7 hb;replace BK7:=a0_ (blk_below (g:=gb7) (o:=.cells #[.slice Ao61 t4.length co61] 28 (0,0)) (by (with_reducible repeat (first | refine blk_drewN ?_ _ | refine blk_drew ?_ | refine blk_alloc ?_ _));refine blk_put (cs:=#[.slice none 0 0]) ?_ 0 _ rfl;(with_reducible repeat (first | refine blk_drewN ?_ _ | refine blk_drew ?_ | refine blk_alloc ?_ _));exact BK7.out) hb);replace HB:=a0_ (below_step hbw_ hb);(try clear hb);have hcz70_0 : w69.cell? ⟨gb3,0,none⟩ = some (.slice none 0 0):=(blk_cell BK3.out 0).trans rfl;have hfz70_0:=blk_frozen BK3.out 0))
  refine bodyPost_ret (results_ctt rfl _ _ gb3 28 #[.slice none 0 0] (0,0) _ rfl (by (with_reducible repeat (first | refine blk_drewN ?_ _ | refine blk_drew ?_ | refine blk_alloc ?_ _));refine blk_put (cs:=#[.slice none 0 0]) ?_ 0 _ rfl;(with_reducible repeat (first | refine blk_drewN ?_ _ | refine blk_drew ?_ | refine blk_alloc ?_ _));exact BK3.out) Try.underlying28 rfl (by kernel_rfl)) rfl ?_
  exact ⟨_,by first | rfl | (simp [errW_none,errW_some] <;> rfl) | (simp [*,errW_none,errW_some] <;> rfl),by first | exact Kd.R_nil _ _ _ _ _ | exact Kd.N_nil _ _ _ _ _ | exact Kd.V_nil _ _ _ _ _ | exact Kd.Q_nil _ _ _ _ _ | exact Kd.S_nil _ _ _ _ _,hbw_⟩
theorem spec_NewFault_ev (t : List Cls) (h : List Fau) (a c : Int) (hs : smT t = true) (ht : t.length ≤ 9223372036854775807) (hl : h.length ≤ 1048576) : Ev (fun k=>spec_NewFault.f k t h a c) (newP t h a c):=by
 have ha : spec_added.f h a c = some (h ++ [⟨a,c,-1,-1,false⟩]):=by
  unfold spec_added.f
  rw [spec_copyHeap_ev h (by omega),Option.bind_some,if_pos (by omega)]
 refine Ev.bind (Ev.const ha) (Ev.bind (spec_validHeap_ev t h hs ht (by omega)) ?_)
 have h2:=spec_validHeap_ev t (h ++ [⟨a,c,-1,-1,false⟩]) hs ht (by simp;omega)
 unfold newP
 cases hq : vH t h with
 | false=>exact Ev.neg (by simp) (Ev.const (by simp))
 | true =>
  refine Ev.pos rfl (Ev.bind h2 ?_)
  cases hq2 : vH t (h ++ [⟨a,c,-1,-1,false⟩]) with
  | false=>exact Ev.neg (by simp) (Ev.const (by simp))
  | true=>exact Ev.pos rfl (Ev.const (by simp))
end Go.Proofs.Ytmiholmfbjalfaa.P
namespace Go.Proofs.Ytmiholmfbjalfaa.P
open Go.RowKit Go.Proofs.YtmiholmfbjalfaaW.PrintWords Go.Proofs.YtmiholmfbjalfaaW.PrintLast Go.Proofs.YtmiholmfbjalfaaW.PrintMore
attribute [local go_sem] max2_int min2_int max_two min_two max_three min_three max_four min_four
set_option linter.unusedVariables false
set_option linter.unusedSimpArgs false
theorem eqA43 (d : Nat) (w : World) (x0 y0 : Int) (x1 y1 : Int) (x2 y2 : Int) (x3 y3 : Int) (x4 y4 : Bool) :
  (Op.equalIn (d + 2) 43 (.agg #[.int .i64 x0,.int .i64 x1,.int .i64 x2,.int .i64 x3,.bool x4]) (.agg #[.int .i64 y0,.int .i64 y1,.int .i64 y2,.int .i64 y3,.bool y4])).run Try.prog w = .ok (x0 == y0 && (x1 == y1 && (x2 == y2 && (x3 == y3 && (x4 == y4))))) w:=by
 refine eqA_of Try.underlying43 (by kernel_rfl) ?_
 refine eqf_cons (by rfl) (by go_simp;rfl) (by go_simp;rfl) (by go_simp) ?_
 refine eqf_cons (by rfl) (by go_simp;rfl) (by go_simp;rfl) (by go_simp) ?_
 refine eqf_cons (by rfl) (by go_simp;rfl) (by go_simp;rfl) (by go_simp) ?_
 refine eqf_cons (by rfl) (by go_simp;rfl) (by go_simp;rfl) (by go_simp) ?_
 exact eqf_last (by rfl) (by go_simp;rfl) (by go_simp;rfl) (by go_simp)
end Go.Proofs.Ytmiholmfbjalfaa.P
namespace Go.Proofs.Ytmiholmfbjalfaa.P
open Go.RowKit Go.Proofs.YtmiholmfbjalfaaW.PrintWords Go.Proofs.YtmiholmfbjalfaaW.PrintLast Go.Proofs.YtmiholmfbjalfaaW.PrintMore
attribute [local go_sem] max2_int min2_int max_two min_two max_three min_three max_four min_four
set_option linter.unusedVariables false
set_option linter.unusedSimpArgs false
attribute [local go_sem high] eqA43
def laws_equalHeap.l0 : Nat → Int → List (S43) → List (S43) → Option (Bool)
 | 0,_,_,_=>none
 | k + 1,x5,x2000,x3000=>if x5 < (x2000.length : Int) then (if 0 ≤ x5 then (if x5 < (x3000.length : Int) then (if (!(((rd_T43 x2000 x5).f0) == ((rd_T43 x3000 x5).f0)) || (!(((rd_T43 x2000 x5).f1) == ((rd_T43 x3000 x5).f1)) || (!(((rd_T43 x2000 x5).f2) == ((rd_T43 x3000 x5).f2)) || (!(((rd_T43 x2000 x5).f3) == ((rd_T43 x3000 x5).f3)) || (!(((rd_T43 x2000 x5).f4) == ((rd_T43 x3000 x5).f4))))))) = true then (some false) else (laws_equalHeap.l0 k (wrap64 (x5 + 1)) x2000 x3000)) else (none)) else (none)) else (some true)
def laws_equalHeap.f (k : Nat) (l0_0 : List (S43)) (l1_0 : List (S43)) : Option (Bool):=if (l0_0.length : Int) = (l1_0.length : Int) then (laws_equalHeap.l0 k 0 l0_0 l1_0) else (some false)
theorem laws_equalHeap.mono_l : ∀ k,(∀ y0 y1 y2,LeO (laws_equalHeap.l0 k y0 y1 y2) (laws_equalHeap.l0 (k + 1) y0 y1 y2))
 | 0=>fun _ _ _ r h=>by simp [laws_equalHeap.l0] at h
 | k + 1=>by
  have ih0:=laws_equalHeap.mono_l k
  ·intro y0 y1 y2
   unfold laws_equalHeap.l0
   repeat' first
   | (with_reducible exact ih0 _ _ _)
   | (with_reducible exact LeO.refl _)
   | (with_reducible exact LeO.none _)
   | (with_reducible refine LeO.ite ?_ ?_)
   | (with_reducible refine LeO.bind ?_ (fun _=>?_))
   | exact ih0 _ _ _
   | exact LeO.none _
   | refine LeO.ite ?_ ?_
   | refine LeO.bind ?_ (fun _=>?_)
theorem laws_equalHeap.mono : ∀ a0 a1 k,LeO (laws_equalHeap.f k a0 a1) (laws_equalHeap.f (k + 1) a0 a1):=by
 intro a0 a1 k
 have ih0:=laws_equalHeap.mono_l k
 unfold laws_equalHeap.f
 repeat' first
   | (with_reducible exact ih0 _ _ _)
   | (with_reducible exact LeO.refl _)
   | (with_reducible exact LeO.none _)
   | (with_reducible refine LeO.ite ?_ ?_)
   | (with_reducible refine LeO.bind ?_ (fun _=>?_))
   | exact ih0 _ _ _
   | exact LeO.none _
   | refine LeO.ite ?_ ?_
   | refine LeO.bind ?_ (fun _=>?_)
set_option maxHeartbeats 8000000 in
set_option maxRecDepth 100000 in
theorem laws_equalHeap.calls (k : Nat) (A0_0 : Option Addr) (c0_0 : Nat) (l0_0 : List (S43)) (A1_0 : Option Addr) (c1_0 : Nat) (l1_0 : List (S43)) (r : Bool) (w : World) (hr0_0 : Kd.C k43 w A0_0 l0_0.length l0_0) (hc0_0 : l0_0.length ≤ c0_0) (hr1_0 : Kd.C k43 w A1_0 l1_0.length l1_0) (hc1_0 : l1_0.length ≤ c1_0) (h : laws_equalHeap.f k l0_0 l1_0 = some r) :
  Calls Try.prog 19 #[.agg #[.slice A0_0 l0_0.length c0_0],.agg #[.slice A1_0 l1_0.length c1_0]] w fun e w'=>e = .returned (.bool r) ∧ Below w.heap.size w w':=by
 have hu28:=Try.underlying28
 have hu43:=Try.underlying43
 have HR0_0:=a0_ hr0_0
 have HC0_0:=a0_ hc0_0
 clear hr0_0 hc0_0
 have HR1_0:=a0_ hr1_0
 have HC1_0:=a0_ hc1_0
 clear hr1_0 hc1_0
 have HB:=a0_ (Below.refl w.heap.size w)
 have H : (if (l0_0.length : Int) = (l1_0.length : Int) then (laws_equalHeap.l0 k 0 l0_0 l1_0) else (some false)) = some r:=h
 clear h
 by_cases c3 : (l0_0.length : Int) = (l1_0.length : Int)
 ·rw [if_pos c3] at H
  have c3b0 : ((l0_0.length : Int) == (l1_0.length : Int)) = true:=beq_iff_eq.mpr c3
  have c3b1 : ((l0_0.length : Int) != (l1_0.length : Int)) = false:=bne_eq_false_iff_eq.mpr c3
  have c3b2 : (l0_0.length == l1_0.length) = true:=by first | simpa using c3 | (simp at c3 ⊢;omega)
  clear c3
  have H':=a0_ H
  clear H
  go_enter Try.func19,Try.ntmps19
  go_wp2_with (first | ((with_reducible refine gate_dst (N:=2) rfl ?_);refine box_event ?hg (N:=2) ?hd (cs:=#[.slice A0_0 l0_0.length c0_0]) (t:=28) ?hr ?_;(case hd=>rfl);(case hg=>rfl);(case hr=>first | (go_simp;done) | (go_simp;rfl));intro gb1 hg w4 hbox hb;have BK1:=a0_ (hbox);have GW1:=a0_ ((by rw [hg];exact (below_size hbw_) : w.heap.size ≤ gb1));have GE1:=a0_ ((by rw [hg];exact (below_size hbw_) : w.heap.size ≤ gb1));replace HB:=a0_ (below_step hbw_ hb);clear hb hbox hg) | ((with_reducible refine gate_dst (N:=3) rfl ?_);refine box_event ?hg (N:=3) ?hd (cs:=#[.slice A1_0 l1_0.length c1_0]) (t:=28) ?hr ?_;(case hd=>rfl);(case hg=>rfl);(case hr=>first | (go_simp;done) | (go_simp;rfl));intro gb2 hg w5 hbox hb;have n0_:=kb_ BK1 hb;have n1_:=a0_ (below_step hbw_ hb);have n2_:=a0_ (hbox);have n3_:=a0_ ((by rw [hg];exact (below_size hbw_) : w.heap.size ≤ gb2));have n4_:=a0_ ((by rw [hg];exact (below_size hbw_) : w.heap.size ≤ gb2));have n5_:=a0_ ((by rw [hg];exact Nat.ne_of_lt (blk_lt (bb_ BK1.out)) : gb1 ≠ gb2));have n6_:=a0_ ((by rw [hg];exact Nat.ne_of_gt (blk_lt (bb_ BK1.out)) : gb2 ≠ gb1));clear BK1 HB;have BK1:=n0_;have HB:=n1_;have BK2:=n2_;have GW2:=n3_;have GE2:=n4_;have NB1_2:=n5_;have NB2_1:=n6_;clear n0_ n1_ n2_ n3_ n4_ n5_ n6_;clear hb hbox hg;have hnb6:=NB1_2.out;have hnc6:=NB2_1.out;have hcz7_0 : w5.cell? ⟨gb1,0,none⟩ = some (.slice A0_0 l0_0.length c0_0):=(blk_cell BK1.out 0).trans rfl;have hfz7_0:=blk_frozen BK1.out 0;have hcz8_0 : w5.cell? ⟨gb2,0,none⟩ = some (.slice A1_0 l1_0.length c1_0):=(blk_cell BK2.out 0).trans rfl;have hfz8_0:=blk_frozen BK2.out 0))
  repeat (go_quiet (first | ((with_reducible refine gate_dst (N:=2) rfl ?_);refine box_event ?hg (N:=2) ?hd (cs:=#[.slice A0_0 l0_0.length c0_0]) (t:=28) ?hr ?_;(case hd=>rfl);(case hg=>rfl);(case hr=>first | (go_simp;done) | (go_simp;rfl));intro gb1 hg w4 hbox hb;have BK1:=a0_ (hbox);have GW1:=a0_ ((by rw [hg];exact (below_size hbw_) : w.heap.size ≤ gb1));have GE1:=a0_ ((by rw [hg];exact (below_size hbw_) : w.heap.size ≤ gb1));replace HB:=a0_ (below_step hbw_ hb);clear hb hbox hg) | ((with_reducible refine gate_dst (N:=3) rfl ?_);refine box_event ?hg (N:=3) ?hd (cs:=#[.slice A1_0 l1_0.length c1_0]) (t:=28) ?hr ?_;(case hd=>rfl);(case hg=>rfl);(case hr=>first | (go_simp;done) | (go_simp;rfl));intro gb2 hg w5 hbox hb;have n0_:=kb_ BK1 hb;have n1_:=a0_ (below_step hbw_ hb);have n2_:=a0_ (hbox);have n3_:=a0_ ((by rw [hg];exact (below_size hbw_) : w.heap.size ≤ gb2));have n4_:=a0_ ((by rw [hg];exact (below_size hbw_) : w.heap.size ≤ gb2));have n5_:=a0_ ((by rw [hg];exact Nat.ne_of_lt (blk_lt (bb_ BK1.out)) : gb1 ≠ gb2));have n6_:=a0_ ((by rw [hg];exact Nat.ne_of_gt (blk_lt (bb_ BK1.out)) : gb2 ≠ gb1));clear BK1 HB;have BK1:=n0_;have HB:=n1_;have BK2:=n2_;have GW2:=n3_;have GE2:=n4_;have NB1_2:=n5_;have NB2_1:=n6_;clear n0_ n1_ n2_ n3_ n4_ n5_ n6_;clear hb hbox hg;have hnb6:=NB1_2.out;have hnc6:=NB2_1.out;have hcz7_0 : w5.cell? ⟨gb1,0,none⟩ = some (.slice A0_0 l0_0.length c0_0):=(blk_cell BK1.out 0).trans rfl;have hfz7_0:=blk_frozen BK1.out 0;have hcz8_0 : w5.cell? ⟨gb2,0,none⟩ = some (.slice A1_0 l1_0.length c1_0):=(blk_cell BK2.out 0).trans rfl;have hfz8_0:=blk_frozen BK2.out 0));try go_wp2_with (first | ((with_reducible refine gate_dst (N:=2) rfl ?_);refine box_event ?hg (N:=2) ?hd (cs:=#[.slice A0_0 l0_0.length c0_0]) (t:=28) ?hr ?_;(case hd=>rfl);(case hg=>rfl);(case hr=>first | (go_simp;done) | (go_simp;rfl));intro gb1 hg w4 hbox hb;have BK1:=a0_ (hbox);have GW1:=a0_ ((by rw [hg];exact (below_size hbw_) : w.heap.size ≤ gb1));have GE1:=a0_ ((by rw [hg];exact (below_size hbw_) : w.heap.size ≤ gb1));replace HB:=a0_ (below_step hbw_ hb);clear hb hbox hg) | ((with_reducible refine gate_dst (N:=3) rfl ?_);refine box_event ?hg (N:=3) ?hd (cs:=#[.slice A1_0 l1_0.length c1_0]) (t:=28) ?hr ?_;(case hd=>rfl);(case hg=>rfl);(case hr=>first | (go_simp;done) | (go_simp;rfl));intro gb2 hg w5 hbox hb;have n0_:=kb_ BK1 hb;have n1_:=a0_ (below_step hbw_ hb);have n2_:=a0_ (hbox);have n3_:=a0_ ((by rw [hg];exact (below_size hbw_) : w.heap.size ≤ gb2));have n4_:=a0_ ((by rw [hg];exact (below_size hbw_) : w.heap.size ≤ gb2));have n5_:=a0_ ((by rw [hg];exact Nat.ne_of_lt (blk_lt (bb_ BK1.out)) : gb1 ≠ gb2));have n6_:=a0_ ((by rw [hg];exact Nat.ne_of_gt (blk_lt (bb_ BK1.out)) : gb2 ≠ gb1));clear BK1 HB;have BK1:=n0_;have HB:=n1_;have BK2:=n2_;have GW2:=n3_;have GE2:=n4_;have NB1_2:=n5_;have NB2_1:=n6_;clear n0_ n1_ n2_ n3_ n4_ n5_ n6_;clear hb hbox hg;have hnb6:=NB1_2.out;have hnc6:=NB2_1.out;have hcz7_0 : w5.cell? ⟨gb1,0,none⟩ = some (.slice A0_0 l0_0.length c0_0):=(blk_cell BK1.out 0).trans rfl;have hfz7_0:=blk_frozen BK1.out 0;have hcz8_0 : w5.cell? ⟨gb2,0,none⟩ = some (.slice A1_0 l1_0.length c1_0):=(blk_cell BK2.out 0).trans rfl;have hfz8_0:=blk_frozen BK2.out 0)))
  go_loopg [5] k (fun kq v5 w'=>∃ (x5_1 : Int),v5 = .int .i64 x5_1 ∧ Aside0 (laws_equalHeap.l0 kq x5_1 l0_0 l1_0 = some r) ∧ Aside0 (kq ≤ k) ∧ Aside0 (w'.heap[gb1]? = some (.cells #[(.slice A0_0 l0_0.length c0_0)] 28 (0,0))) ∧ Aside0 (w'.heap[gb2]? = some (.cells #[(.slice A1_0 l1_0.length c1_0)] 28 (0,0))) ∧ Aside0 (Below w.heap.size w w'))
  case atStart=>exact ⟨(0),(by first | rfl | (simp;done) | (simp [*];done)),H',⟨Nat.le_refl _⟩,⟨by (with_reducible repeat (first | refine blk_drewN ?_ _ | refine blk_drew ?_ | refine blk_alloc ?_ _));exact BK1.out⟩,⟨by (with_reducible repeat (first | refine blk_drewN ?_ _ | refine blk_drew ?_ | refine blk_alloc ?_ _));exact BK2.out⟩,⟨hbw_⟩⟩
  case round =>
   clear H'
   try clear c1
   try clear p2
   try clear c3
   try clear c3b0
   try clear c3b1
   try clear c3b2
   try clear c6
   try clear hcz7_0
   try clear hcz8_0
   try clear hfz7_0
   try clear hfz8_0
   obtain ⟨x5_1,rfl,HA,HK1,BK1,BK2,HB⟩:=hrel
   cases gk with
   | zero=>exact absurd HA.out (by simp [laws_equalHeap.l0])
   | succ k1 =>
    have H:=HA.out
    clear HA
    simp only [laws_equalHeap.l0] at H
    by_cases c9 : x5_1 < (l0_0.length : Int)
    ·rw [if_pos c9] at H
     have c9b0 : decide (x5_1 < (l0_0.length : Int)) = true:=decide_eq_true c9
     clear c9
     by_cases c10 : 0 ≤ x5_1
     ·rw [if_pos c10] at H
      have c10b0 : decide (0 ≤ x5_1) = true:=decide_eq_true c10
      clear c10
      by_cases c11 : x5_1 < (l1_0.length : Int)
      ·rw [if_pos c11] at H
       have c11b0 : decide (x5_1 < (l1_0.length : Int)) = true:=decide_eq_true c11
       clear c11
       by_cases c12 : (!(((rd_T43 l0_0 x5_1).f0) == ((rd_T43 l1_0 x5_1).f0)) || (!(((rd_T43 l0_0 x5_1).f1) == ((rd_T43 l1_0 x5_1).f1)) || (!(((rd_T43 l0_0 x5_1).f2) == ((rd_T43 l1_0 x5_1).f2)) || (!(((rd_T43 l0_0 x5_1).f3) == ((rd_T43 l1_0 x5_1).f3)) || (!(((rd_T43 l0_0 x5_1).f4) == ((rd_T43 l1_0 x5_1).f4))))))) = true
       ·rw [if_pos c12] at H
        have c12b0 : (!(((rd_T43 l0_0 x5_1).f0) == ((rd_T43 l1_0 x5_1).f0)) || (!(((rd_T43 l0_0 x5_1).f1) == ((rd_T43 l1_0 x5_1).f1)) || (!(((rd_T43 l0_0 x5_1).f2) == ((rd_T43 l1_0 x5_1).f2)) || (!(((rd_T43 l0_0 x5_1).f3) == ((rd_T43 l1_0 x5_1).f3)) || (!(((rd_T43 l0_0 x5_1).f4) == ((rd_T43 l1_0 x5_1).f4))))))) = true:=c12
        clear c12
        obtain rfl:=Option.some.inj H
        have hnb13:=NB1_2.out
        have hnc13:=NB2_1.out
        have hcz14_0 : wr.cell? ⟨gb1,0,none⟩ = some (.slice A0_0 l0_0.length c0_0):=(blk_cell BK1.out 0).trans rfl
        have hfz14_0:=blk_frozen BK1.out 0
        have p3 : 0 ≤ (x5_1 : Int):=of_decide_eq_true (by first | (with_reducible assumption) | assumption)
        have q3 : x5_1 < (l0_0.length : Int):=of_decide_eq_true (by first | (with_reducible assumption) | assumption)
        obtain ⟨ad3,e3,hx3_0,hx3_1,hx3_2,hx3_3,hx3_4⟩:=at_T43 HR0_0.out x5_1 p3 q3
        cases e3
        replace hx3_0:=(HB.out.cell (World.block_lt_of_cell? w _ hx3_0)).trans hx3_0
        replace hx3_1:=(HB.out.cell (World.block_lt_of_cell? w _ hx3_1)).trans hx3_1
        replace hx3_2:=(HB.out.cell (World.block_lt_of_cell? w _ hx3_2)).trans hx3_2
        replace hx3_3:=(HB.out.cell (World.block_lt_of_cell? w _ hx3_3)).trans hx3_3
        replace hx3_4:=(HB.out.cell (World.block_lt_of_cell? w _ hx3_4)).trans hx3_4
        replace p3:=eq_true p3
        replace q3:=eq_true q3
        have hcz15_0 : wr.cell? ⟨gb2,0,none⟩ = some (.slice A1_0 l1_0.length c1_0):=(blk_cell BK2.out 0).trans rfl
        have hfz15_0:=blk_frozen BK2.out 0
        have p4 : 0 ≤ (x5_1 : Int):=of_decide_eq_true (by first | (with_reducible assumption) | assumption)
        have q4 : x5_1 < (l1_0.length : Int):=of_decide_eq_true (by first | (with_reducible assumption) | assumption)
        obtain ⟨ad4,e4,hx4_0,hx4_1,hx4_2,hx4_3,hx4_4⟩:=at_T43 HR1_0.out x5_1 p4 q4
        cases e4
        replace hx4_0:=(HB.out.cell (World.block_lt_of_cell? w _ hx4_0)).trans hx4_0
        replace hx4_1:=(HB.out.cell (World.block_lt_of_cell? w _ hx4_1)).trans hx4_1
        replace hx4_2:=(HB.out.cell (World.block_lt_of_cell? w _ hx4_2)).trans hx4_2
        replace hx4_3:=(HB.out.cell (World.block_lt_of_cell? w _ hx4_3)).trans hx4_3
        replace hx4_4:=(HB.out.cell (World.block_lt_of_cell? w _ hx4_4)).trans hx4_4
        replace p4:=eq_true p4
        replace q4:=eq_true q4
        go_wp2
        repeat (go_quiet (fail);try go_wp2)
        go_ret
        exact ⟨by first | rfl | (simp [errW_none,errW_some] <;> rfl) | (simp [*,errW_none,errW_some] <;> rfl),hbw_⟩
       ·rw [if_neg c12] at H
        have c12b0 : (!(((rd_T43 l0_0 x5_1).f0) == ((rd_T43 l1_0 x5_1).f0)) || (!(((rd_T43 l0_0 x5_1).f1) == ((rd_T43 l1_0 x5_1).f1)) || (!(((rd_T43 l0_0 x5_1).f2) == ((rd_T43 l1_0 x5_1).f2)) || (!(((rd_T43 l0_0 x5_1).f3) == ((rd_T43 l1_0 x5_1).f3)) || (!(((rd_T43 l0_0 x5_1).f4) == ((rd_T43 l1_0 x5_1).f4))))))) = false:=by simpa using c12
        clear c12
        have H':=a0_ H
        clear H
        have hnb16:=NB1_2.out
        have hnc16:=NB2_1.out
        have hcz17_0 : wr.cell? ⟨gb1,0,none⟩ = some (.slice A0_0 l0_0.length c0_0):=(blk_cell BK1.out 0).trans rfl
        have hfz17_0:=blk_frozen BK1.out 0
        have p3 : 0 ≤ (x5_1 : Int):=of_decide_eq_true (by first | (with_reducible assumption) | assumption)
        have q3 : x5_1 < (l0_0.length : Int):=of_decide_eq_true (by first | (with_reducible assumption) | assumption)
        obtain ⟨ad3,e3,hx3_0,hx3_1,hx3_2,hx3_3,hx3_4⟩:=at_T43 HR0_0.out x5_1 p3 q3
        cases e3
        replace hx3_0:=(HB.out.cell (World.block_lt_of_cell? w _ hx3_0)).trans hx3_0
        replace hx3_1:=(HB.out.cell (World.block_lt_of_cell? w _ hx3_1)).trans hx3_1
        replace hx3_2:=(HB.out.cell (World.block_lt_of_cell? w _ hx3_2)).trans hx3_2
        replace hx3_3:=(HB.out.cell (World.block_lt_of_cell? w _ hx3_3)).trans hx3_3
        replace hx3_4:=(HB.out.cell (World.block_lt_of_cell? w _ hx3_4)).trans hx3_4
        replace p3:=eq_true p3
        replace q3:=eq_true q3
        have hcz18_0 : wr.cell? ⟨gb2,0,none⟩ = some (.slice A1_0 l1_0.length c1_0):=(blk_cell BK2.out 0).trans rfl
        have hfz18_0:=blk_frozen BK2.out 0
        have p4 : 0 ≤ (x5_1 : Int):=of_decide_eq_true (by first | (with_reducible assumption) | assumption)
        have q4 : x5_1 < (l1_0.length : Int):=of_decide_eq_true (by first | (with_reducible assumption) | assumption)
        obtain ⟨ad4,e4,hx4_0,hx4_1,hx4_2,hx4_3,hx4_4⟩:=at_T43 HR1_0.out x5_1 p4 q4
        cases e4
        replace hx4_0:=(HB.out.cell (World.block_lt_of_cell? w _ hx4_0)).trans hx4_0
        replace hx4_1:=(HB.out.cell (World.block_lt_of_cell? w _ hx4_1)).trans hx4_1
        replace hx4_2:=(HB.out.cell (World.block_lt_of_cell? w _ hx4_2)).trans hx4_2
        replace hx4_3:=(HB.out.cell (World.block_lt_of_cell? w _ hx4_3)).trans hx4_3
        replace hx4_4:=(HB.out.cell (World.block_lt_of_cell? w _ hx4_4)).trans hx4_4
        replace p4:=eq_true p4
        replace q4:=eq_true q4
        go_wp2
        repeat (go_quiet (fail);try go_wp2)
        go_roundg k1
        case measure=>have:=HK1.out;omega
        case rel=>exact ⟨(wrap64 (x5_1 + 1)),(by first | rfl | (simp;done) | (simp [*];done)),H',⟨by have:=HK1.out;omega⟩,⟨by (with_reducible repeat (first | refine blk_drewN ?_ _ | refine blk_drew ?_ | refine blk_alloc ?_ _));exact BK1.out⟩,⟨by (with_reducible repeat (first | refine blk_drewN ?_ _ | refine blk_drew ?_ | refine blk_alloc ?_ _));exact BK2.out⟩,⟨hbw_⟩⟩
      ·rw [if_neg c11] at H
       exact absurd H (by simp)
     ·rw [if_neg c10] at H
      exact absurd H (by simp)
    ·rw [if_neg c9] at H
     have c9b0 : decide (x5_1 < (l0_0.length : Int)) = false:=decide_eq_false c9
     clear c9
     obtain rfl:=Option.some.inj H
     have hnb19:=NB1_2.out
     have hnc19:=NB2_1.out
     have hcz20_0 : wr.cell? ⟨gb1,0,none⟩ = some (.slice A0_0 l0_0.length c0_0):=(blk_cell BK1.out 0).trans rfl
     have hfz20_0:=blk_frozen BK1.out 0
     go_wp2
     repeat (go_quiet (fail);try go_wp2)
     go_ret
     exact ⟨by first | rfl | (simp [errW_none,errW_some] <;> rfl) | (simp [*,errW_none,errW_some] <;> rfl),hbw_⟩
 ·rw [if_neg c3] at H
  have c3b0 : ((l0_0.length : Int) == (l1_0.length : Int)) = false:=beq_eq_false_iff_ne.mpr c3
  have c3b1 : ((l0_0.length : Int) != (l1_0.length : Int)) = true:=bne_iff_ne.mpr c3
  have c3b2 : (l0_0.length == l1_0.length) = false:=by first | simpa using c3 | (simp at c3 ⊢;omega)
  obtain rfl:=Option.some.inj H
  go_enter Try.func19,Try.ntmps19
  go_wp2_with (first | ((with_reducible refine gate_dst (N:=2) rfl ?_);refine box_event ?hg (N:=2) ?hd (cs:=#[.slice A0_0 l0_0.length c0_0]) (t:=28) ?hr ?_;(case hd=>rfl);(case hg=>rfl);(case hr=>first | (go_simp;done) | (go_simp;rfl));intro gb1 hg w21 hbox hb;have BK1:=a0_ (hbox);have GW1:=a0_ ((by rw [hg];exact (below_size hbw_) : w.heap.size ≤ gb1));have GE1:=a0_ ((by rw [hg];exact (below_size hbw_) : w.heap.size ≤ gb1));replace HB:=a0_ (below_step hbw_ hb);clear hb hbox hg) | ((with_reducible refine gate_dst (N:=3) rfl ?_);refine box_event ?hg (N:=3) ?hd (cs:=#[.slice A1_0 l1_0.length c1_0]) (t:=28) ?hr ?_;(case hd=>rfl);(case hg=>rfl);(case hr=>first | (go_simp;done) | (go_simp;rfl));intro gb2 hg w22 hbox hb;have n0_:=kb_ BK1 hb;have n1_:=a0_ (below_step hbw_ hb);have n2_:=a0_ (hbox);have n3_:=a0_ ((by rw [hg];exact (below_size hbw_) : w.heap.size ≤ gb2));have n4_:=a0_ ((by rw [hg];exact (below_size hbw_) : w.heap.size ≤ gb2));have n5_:=a0_ ((by rw [hg];exact Nat.ne_of_lt (blk_lt (bb_ BK1.out)) : gb1 ≠ gb2));have n6_:=a0_ ((by rw [hg];exact Nat.ne_of_gt (blk_lt (bb_ BK1.out)) : gb2 ≠ gb1));clear BK1 HB;have BK1:=n0_;have HB:=n1_;have BK2:=n2_;have GW2:=n3_;have GE2:=n4_;have NB1_2:=n5_;have NB2_1:=n6_;clear n0_ n1_ n2_ n3_ n4_ n5_ n6_;clear hb hbox hg;have hnb23:=NB1_2.out;have hnc23:=NB2_1.out;have hcz24_0 : w22.cell? ⟨gb1,0,none⟩ = some (.slice A0_0 l0_0.length c0_0):=(blk_cell BK1.out 0).trans rfl;have hfz24_0:=blk_frozen BK1.out 0;have hcz25_0 : w22.cell? ⟨gb2,0,none⟩ = some (.slice A1_0 l1_0.length c1_0):=(blk_cell BK2.out 0).trans rfl;have hfz25_0:=blk_frozen BK2.out 0))
  repeat (go_quiet (first | ((with_reducible refine gate_dst (N:=2) rfl ?_);refine box_event ?hg (N:=2) ?hd (cs:=#[.slice A0_0 l0_0.length c0_0]) (t:=28) ?hr ?_;(case hd=>rfl);(case hg=>rfl);(case hr=>first | (go_simp;done) | (go_simp;rfl));intro gb1 hg w21 hbox hb;have BK1:=a0_ (hbox);have GW1:=a0_ ((by rw [hg];exact (below_size hbw_) : w.heap.size ≤ gb1));have GE1:=a0_ ((by rw [hg];exact (below_size hbw_) : w.heap.size ≤ gb1));replace HB:=a0_ (below_step hbw_ hb);clear hb hbox hg) | ((with_reducible refine gate_dst (N:=3) rfl ?_);refine box_event ?hg (N:=3) ?hd (cs:=#[.slice A1_0 l1_0.length c1_0]) (t:=28) ?hr ?_;(case hd=>rfl);(case hg=>rfl);(case hr=>first | (go_simp;done) | (go_simp;rfl));intro gb2 hg w22 hbox hb;have n0_:=kb_ BK1 hb;have n1_:=a0_ (below_step hbw_ hb);have n2_:=a0_ (hbox);have n3_:=a0_ ((by rw [hg];exact (below_size hbw_) : w.heap.size ≤ gb2));have n4_:=a0_ ((by rw [hg];exact (below_size hbw_) : w.heap.size ≤ gb2));have n5_:=a0_ ((by rw [hg];exact Nat.ne_of_lt (blk_lt (bb_ BK1.out)) : gb1 ≠ gb2));have n6_:=a0_ ((by rw [hg];exact Nat.ne_of_gt (blk_lt (bb_ BK1.out)) : gb2 ≠ gb1));clear BK1 HB;have BK1:=n0_;have HB:=n1_;have BK2:=n2_;have GW2:=n3_;have GE2:=n4_;have NB1_2:=n5_;have NB2_1:=n6_;clear n0_ n1_ n2_ n3_ n4_ n5_ n6_;clear hb hbox hg;have hnb23:=NB1_2.out;have hnc23:=NB2_1.out;have hcz24_0 : w22.cell? ⟨gb1,0,none⟩ = some (.slice A0_0 l0_0.length c0_0):=(blk_cell BK1.out 0).trans rfl;have hfz24_0:=blk_frozen BK1.out 0;have hcz25_0 : w22.cell? ⟨gb2,0,none⟩ = some (.slice A1_0 l1_0.length c1_0):=(blk_cell BK2.out 0).trans rfl;have hfz25_0:=blk_frozen BK2.out 0));try go_wp2_with (first | ((with_reducible refine gate_dst (N:=2) rfl ?_);refine box_event ?hg (N:=2) ?hd (cs:=#[.slice A0_0 l0_0.length c0_0]) (t:=28) ?hr ?_;(case hd=>rfl);(case hg=>rfl);(case hr=>first | (go_simp;done) | (go_simp;rfl));intro gb1 hg w21 hbox hb;have BK1:=a0_ (hbox);have GW1:=a0_ ((by rw [hg];exact (below_size hbw_) : w.heap.size ≤ gb1));have GE1:=a0_ ((by rw [hg];exact (below_size hbw_) : w.heap.size ≤ gb1));replace HB:=a0_ (below_step hbw_ hb);clear hb hbox hg) | ((with_reducible refine gate_dst (N:=3) rfl ?_);refine box_event ?hg (N:=3) ?hd (cs:=#[.slice A1_0 l1_0.length c1_0]) (t:=28) ?hr ?_;(case hd=>rfl);(case hg=>rfl);(case hr=>first | (go_simp;done) | (go_simp;rfl));intro gb2 hg w22 hbox hb;have n0_:=kb_ BK1 hb;have n1_:=a0_ (below_step hbw_ hb);have n2_:=a0_ (hbox);have n3_:=a0_ ((by rw [hg];exact (below_size hbw_) : w.heap.size ≤ gb2));have n4_:=a0_ ((by rw [hg];exact (below_size hbw_) : w.heap.size ≤ gb2));have n5_:=a0_ ((by rw [hg];exact Nat.ne_of_lt (blk_lt (bb_ BK1.out)) : gb1 ≠ gb2));have n6_:=a0_ ((by rw [hg];exact Nat.ne_of_gt (blk_lt (bb_ BK1.out)) : gb2 ≠ gb1));clear BK1 HB;have BK1:=n0_;have HB:=n1_;have BK2:=n2_;have GW2:=n3_;have GE2:=n4_;have NB1_2:=n5_;have NB2_1:=n6_;clear n0_ n1_ n2_ n3_ n4_ n5_ n6_;clear hb hbox hg;have hnb23:=NB1_2.out;have hnc23:=NB2_1.out;have hcz24_0 : w22.cell? ⟨gb1,0,none⟩ = some (.slice A0_0 l0_0.length c0_0):=(blk_cell BK1.out 0).trans rfl;have hfz24_0:=blk_frozen BK1.out 0;have hcz25_0 : w22.cell? ⟨gb2,0,none⟩ = some (.slice A1_0 l1_0.length c1_0):=(blk_cell BK2.out 0).trans rfl;have hfz25_0:=blk_frozen BK2.out 0)))
  go_ret
  exact ⟨by first | rfl | (simp [errW_none,errW_some] <;> rfl) | (simp [*,errW_none,errW_some] <;> rfl),hbw_⟩
theorem laws_equalHeap_ev (l : List Fau) (hl : l.length ≤ 9223372036854775806) : Ev (fun k=>laws_equalHeap.f k l l) true:=by
 have key : ∀ d j,j + d = l.length → Ev (fun k=>laws_equalHeap.l0 k (j : Int) l l) true:=by
  intro d
  induction d with
  | zero =>
   intro j hj
   refine Ev.succ ?_
   simp only [laws_equalHeap.l0]
   exact Ev.neg (by omega) (Ev.const rfl)
  | succ d ih =>
   intro j hj
   refine Ev.succ ?_
   simp only [laws_equalHeap.l0]
   refine Ev.pos (by omega) (Ev.pos (by omega) (Ev.pos (by omega) (Ev.neg (by simp) ?_)))
   rw [wrap_succ (i:=(j : Int)) (n:=l.length) (by omega) (by omega) (by omega)]
   exact ih (j + 1) (by omega)
 exact Ev.pos rfl (key l.length 0 (by omega))
end Go.Proofs.Ytmiholmfbjalfaa.P
