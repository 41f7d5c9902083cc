/- Texts under the proof of FnSetCause: helper words, the functions' contracts and the plain laws. No condition. -/
import Derived.Test.YtmiholmfbjalfaaQFnSetCausea
import Derived.Test.YtmiholmfbjalfaaQFnSetCauseb
import Derived.Test.YtmiholmfbjalfaaQFnSetCausee
import Derived.Test.YtmiholmfbjalfaaQFnSetCaused
namespace Go.Proofs.Ytmiholmfbjalfaa.P
open Go.RowKit Go.Proofs.YtmiholmfbjalfaaW.PrintWords Go.Proofs.YtmiholmfbjalfaaW.PrintLast Go.Proofs.YtmiholmfbjalfaaW.PrintMore
attribute [local go_sem] max2_int min2_int max_two min_two max_three min_three max_four min_four
set_option linter.unusedVariables false
set_option linter.unusedSimpArgs false
def spec_SetCause.f (k : Nat) (l0_0 : List (S87)) (l1_0 : List (S43)) (a2 : Int) (a3 : Int) : Option ((List (S43)) × Bool):=(spec_goodFault.f k l0_0 l1_0 a2).bind fun t4=>(if t4 = true then (if a3 = a2 then (some (([] : List (S43)),false)) else (if a3 = (-1) then ((spec_copyHeap.f l1_0).bind fun t5=>(if 0 ≤ a2 then (if a2 < (t5.length : Int) then ((some (t5.set (a2 : Int).toNat (⟨(rd_T43 t5 a2).f0,(rd_T43 t5 a2).f1,a3,(rd_T43 t5 a2).f3,(rd_T43 t5 a2).f4⟩ : S43) : List (S43))).bind fun y9=>(some ((y9.set (a2 : Int).toNat (⟨(rd_T43 y9 a2).f0,(rd_T43 y9 a2).f1,(rd_T43 y9 a2).f2,(rd_T43 y9 a2).f3,true⟩ : S43)),true))) else (none)) else (none))) else ((spec_hasFault.f l1_0 a3).bind fun t11=>(if t11 = true then ((spec_copyHeap.f l1_0).bind fun t12=>(if 0 ≤ a2 then (if a2 < (t12.length : Int) then ((some (t12.set (a2 : Int).toNat (⟨(rd_T43 t12 a2).f0,(rd_T43 t12 a2).f1,a3,(rd_T43 t12 a2).f3,(rd_T43 t12 a2).f4⟩ : S43) : List (S43))).bind fun y16=>(some ((y16.set (a2 : Int).toNat (⟨(rd_T43 y16 a2).f0,(rd_T43 y16 a2).f1,(rd_T43 y16 a2).f2,(rd_T43 y16 a2).f3,true⟩ : S43)),true))) else (none)) else (none))) else (some (([] : List (S43)),false)))))) else (some (([] : List (S43)),false)))
theorem spec_SetCause.mono : ∀ a0 a1 a2 a3 k,LeO (spec_SetCause.f k a0 a1 a2 a3) (spec_SetCause.f (k + 1) a0 a1 a2 a3):=by
 intro a0 a1 a2 a3 k
 unfold spec_SetCause.f
 repeat' first
   | (with_reducible exact spec_goodFault.mono _ _ _ _)
   | (with_reducible exact LeO.refl _)
   | (with_reducible exact LeO.none _)
   | (with_reducible refine LeO.ite ?_ ?_)
   | (with_reducible refine LeO.bind ?_ (fun _=>?_))
   | exact spec_goodFault.mono _ _ _ _
   | exact LeO.none _
   | refine LeO.ite ?_ ?_
   | refine LeO.bind ?_ (fun _=>?_)
set_option maxHeartbeats 8000000 in
set_option maxRecDepth 100000 in
theorem spec_SetCause.calls (k : Nat) (A0_0 : Option Addr) (c0_0 : Nat) (l0_0 : List (S87)) (A1_0 : Option Addr) (c1_0 : Nat) (l1_0 : List (S43)) (a2 : Int) (a3 : Int) (r1 : List (S43)) (r2 : Bool) (w : World) (hr0_0 : Kd.C k87 w A0_0 l0_0.length l0_0) (hc0_0 : l0_0.length ≤ c0_0) (hr1_0 : Kd.C k43 w A1_0 l1_0.length l1_0) (hc1_0 : l1_0.length ≤ c1_0) (h : spec_SetCause.f k l0_0 l1_0 a2 a3 = some (r1,r2)) :
  Calls Try.prog 25 #[.agg #[.slice A0_0 l0_0.length c0_0],.agg #[.slice A1_0 l1_0.length c1_0],.int .i64 a2,.int .i64 a3] w fun e w'=>∃ v0_ : Value,e = .returned (.tuple #[.agg #[v0_],.bool r2]) ∧ Kd.R k43 43 w' w.heap.size (fun _=>True) v0_ r1 ∧ Below w.heap.size w w':=by
 have hu25:=Try.underlying25
 have hu28:=Try.underlying28
 have HR0_0:=a0_ hr0_0
 have HC0_0:=a0_ hc0_0
 clear hr0_0 hc0_0
 have HR1_0:=a0_ hr1_0
 have HC1_0:=a0_ hc1_0
 clear hr1_0 hc1_0
 have HB:=a0_ (Below.refl w.heap.size w)
 have H : ((spec_goodFault.f k l0_0 l1_0 a2).bind fun t4=>(if t4 = true then (if a3 = a2 then (some (([] : List (S43)),false)) else (if a3 = (-1) then ((spec_copyHeap.f l1_0).bind fun t5=>(if 0 ≤ a2 then (if a2 < (t5.length : Int) then ((some (t5.set (a2 : Int).toNat (⟨(rd_T43 t5 a2).f0,(rd_T43 t5 a2).f1,a3,(rd_T43 t5 a2).f3,(rd_T43 t5 a2).f4⟩ : S43) : List (S43))).bind fun y9=>(some ((y9.set (a2 : Int).toNat (⟨(rd_T43 y9 a2).f0,(rd_T43 y9 a2).f1,(rd_T43 y9 a2).f2,(rd_T43 y9 a2).f3,true⟩ : S43)),true))) else (none)) else (none))) else ((spec_hasFault.f l1_0 a3).bind fun t11=>(if t11 = true then ((spec_copyHeap.f l1_0).bind fun t12=>(if 0 ≤ a2 then (if a2 < (t12.length : Int) then ((some (t12.set (a2 : Int).toNat (⟨(rd_T43 t12 a2).f0,(rd_T43 t12 a2).f1,a3,(rd_T43 t12 a2).f3,(rd_T43 t12 a2).f4⟩ : S43) : List (S43))).bind fun y16=>(some ((y16.set (a2 : Int).toNat (⟨(rd_T43 y16 a2).f0,(rd_T43 y16 a2).f1,(rd_T43 y16 a2).f2,(rd_T43 y16 a2).f3,true⟩ : S43)),true))) else (none)) else (none))) else (some (([] : List (S43)),false)))))) else (some (([] : List (S43)),false)))) = some (r1,r2):=h
 clear h
 replace H:=Option.bind_eq_some_iff.mp H
 obtain ⟨t4,A50,H⟩:=H
 try dsimp only at H
 have A5:=a0_ A50
 clear A50
 by_cases c6 : t4 = true
 ·subst c6
  have H1 : (if a3 = a2 then (some (([] : List (S43)),false)) else (if a3 = (-1) then ((spec_copyHeap.f l1_0).bind fun t5=>(if 0 ≤ a2 then (if a2 < (t5.length : Int) then ((some (t5.set (a2 : Int).toNat (⟨(rd_T43 t5 a2).f0,(rd_T43 t5 a2).f1,a3,(rd_T43 t5 a2).f3,(rd_T43 t5 a2).f4⟩ : S43) : List (S43))).bind fun y9=>(some ((y9.set (a2 : Int).toNat (⟨(rd_T43 y9 a2).f0,(rd_T43 y9 a2).f1,(rd_T43 y9 a2).f2,(rd_T43 y9 a2).f3,true⟩ : S43)),true))) else (none)) else (none))) else ((spec_hasFault.f l1_0 a3).bind fun t11=>(if t11 = true then ((spec_copyHeap.f l1_0).bind fun t12=>(if 0 ≤ a2 then (if a2 < (t12.length : Int) then ((some (t12.set (a2 : Int).toNat (⟨(rd_T43 t12 a2).f0,(rd_T43 t12 a2).f1,a3,(rd_T43 t12 a2).f3,(rd_T43 t12 a2).f4⟩ : S43) : List (S43))).bind fun y16=>(some ((y16.set (a2 : Int).toNat (⟨(rd_T43 y16 a2).f0,(rd_T43 y16 a2).f1,(rd_T43 y16 a2).f2,(rd_T43 y16 a2).f3,true⟩ : S43)),true))) else (none)) else (none))) else (some (([] : List (S43)),false)))))) = some (r1,r2):=by rw [if_pos rfl] at H;exact H
  clear H
  have H:=H1
  clear H1
  by_cases c7 : a3 = a2
  ·rw [if_pos c7] at H
   have c7b0 : (a3 == a2) = true:=beq_iff_eq.mpr c7
   have c7b1 : (a3 != a2) = false:=bne_eq_false_iff_eq.mpr c7
   clear c7
   simp only [Option.some.injEq,Prod.mk.injEq] at H
   obtain ⟨rfl,rfl⟩:=H
   go_enter Try.func25,Try.ntmps25
   go_wp2_with (first | ((with_reducible refine gate_dst (N:=4) rfl ?_);refine box_event ?hg (N:=4) ?hd (cs:=#[.slice A0_0 l0_0.length c0_0]) (t:=25) ?hr ?_;(case hd=>rfl);(case hg=>rfl);(case hr=>first | (go_simp;done) | (go_simp;rfl));intro gb1 hg w8 hbox hb;have BK1:=a0_ (hbox);have GW1:=a0_ ((by rw [hg];exact (below_size hb_) : w.heap.size ≤ gb1));have GE1:=a0_ ((by rw [hg];exact (below_size hb_) : w.heap.size ≤ gb1));replace HB:=a0_ (below_step hb_ hb);clear hb hbox hg) | ((with_reducible refine gate_dst (N:=5) rfl ?_);refine box_event ?hg (N:=5) ?hd (cs:=#[.slice A1_0 l1_0.length c1_0]) (t:=28) ?hr ?_;(case hd=>rfl);(case hg=>rfl);(case hr=>first | (go_simp;done) | (go_simp;rfl));intro gb2 hg w9 hbox hb;have n0_:=kb_ BK1 hb;have n1_:=a0_ (below_step hb_ hb);have n2_:=a0_ (hbox);have n3_:=a0_ ((by rw [hg];exact (below_size hb_) : w.heap.size ≤ gb2));have n4_:=a0_ ((by rw [hg];exact (below_size hb_) : w.heap.size ≤ gb2));have n5_:=a0_ ((by rw [hg];exact Nat.ne_of_lt (blk_lt (bb_ BK1.out)) : gb1 ≠ gb2));have n6_:=a0_ ((by rw [hg];exact Nat.ne_of_gt (blk_lt (bb_ BK1.out)) : gb2 ≠ gb1));clear BK1 HB;have BK1:=n0_;have HB:=n1_;have BK2:=n2_;have GW2:=n3_;have GE2:=n4_;have NB1_2:=n5_;have NB2_1:=n6_;clear n0_ n1_ n2_ n3_ n4_ n5_ n6_;clear hb hbox hg) | ((with_reducible refine gate_dst (N:=8) rfl ?_);refine box_event ?hg (N:=8) ?hd (cs:=#[.slice none 0 0]) (t:=28) ?hr ?_;(case hd=>rfl);(case hg=>rfl);(case hr=>first | (go_simp;done) | (go_simp;rfl));intro gb3 hg w10 hbox hb;have n0_:=kb_ BK1 hb;have n1_:=kb_ BK2 hb;have n2_:=a0_ (below_step hb_ hb);have n3_:=a0_ (hbox);have n4_:=a0_ ((by rw [hg];exact (below_size hb_) : w.heap.size ≤ gb3));have n5_:=a0_ ((by rw [hg];exact (below_size hb_) : w.heap.size ≤ gb3));have n6_:=a0_ ((by rw [hg];exact Nat.ne_of_lt (blk_lt (bb_ BK1.out)) : gb1 ≠ gb3));have n7_:=a0_ ((by rw [hg];exact Nat.ne_of_gt (blk_lt (bb_ BK1.out)) : gb3 ≠ gb1));have n8_:=a0_ ((by rw [hg];exact Nat.ne_of_lt (blk_lt (bb_ BK2.out)) : gb2 ≠ gb3));have n9_:=a0_ ((by rw [hg];exact Nat.ne_of_gt (blk_lt (bb_ BK2.out)) : gb3 ≠ gb2));clear BK1 BK2 HB;have BK1:=n0_;have BK2:=n1_;have HB:=n2_;have BK3:=n3_;have GW3:=n4_;have GE3:=n5_;have NB1_3:=n6_;have NB3_1:=n7_;have NB2_3:=n8_;have NB3_2:=n9_;clear n0_ n1_ n2_ n3_ n4_ n5_ n6_ n7_ n8_ n9_;clear hb hbox hg;have hnb11:=NB1_2.out;have hnc11:=NB2_1.out;have hnb12:=NB1_3.out;have hnc12:=NB3_1.out;have hcz13_0 : w10.cell? ⟨gb1,0,none⟩ = some (.slice A0_0 l0_0.length c0_0):=(blk_cell BK1.out 0).trans rfl;have hfz13_0:=blk_frozen BK1.out 0;have hnb14:=NB2_3.out;have hnc14:=NB3_2.out;have hcz15_0 : w10.cell? ⟨gb2,0,none⟩ = some (.slice A1_0 l1_0.length c1_0):=(blk_cell BK2.out 0).trans rfl;have hfz15_0:=blk_frozen BK2.out 0) | ((with_reducible refine gate_callee (f:=38) rfl ?_);refine goesL_ (some 14) rfl rfl Try.func38 (by kernel_rfl) rfl #[.agg #[.slice A0_0 l0_0.length c0_0],.agg #[.slice A1_0 l1_0.length c1_0],.int .i64 a2] rfl lm_ ?_;(with_reducible refine (spec_goodFault.calls k _ _ l0_0 _ _ l1_0 a2 true _ ?side1 ?side2 ?side3 ?side4 A5.out).mono ?_);(case side1=>exact cc_ (Kd.C_below HR0_0.out HB.out));(case side2=>exact HC0_0.out);(case side3=>exact cc_ (Kd.C_below HR1_0.out HB.out));(case side4=>exact HC1_0.out);rintro e w16 ⟨rfl,hb⟩;refine ⟨_,rfl,?_⟩;replace BK1:=kb_ BK1 hb;replace BK2:=kb_ BK2 hb;replace BK3:=kb_ BK3 hb;replace HB:=a0_ (below_step hb_ hb);(try clear hb);have hcz17_0 : w16.cell? ⟨gb3,0,none⟩ = some (.slice none 0 0):=(blk_cell BK3.out 0).trans rfl;have hfz17_0:=blk_frozen BK3.out 0))
   refine bodyPost_ret (results_ct rfl _ _ gb3 28 #[.slice none 0 0] (0,0) _ rfl (by (with_reducible repeat (first | refine blk_drewN ?_ _ | refine blk_drew ?_ | refine blk_alloc ?_ _));refine blk_put (cs:=#[.slice none 0 0]) ?_ 0 _ rfl;(with_reducible repeat (first | refine blk_drewN ?_ _ | refine blk_drew ?_ | refine blk_alloc ?_ _));exact BK3.out) Try.underlying28 rfl (by kernel_rfl)) rfl ?_
   exact ⟨_,by first | rfl | (simp [errW_none,errW_some] <;> rfl) | (simp [*,errW_none,errW_some] <;> rfl),by first | exact Kd.R_nil _ _ _ _ _ | exact Kd.N_nil _ _ _ _ _ | exact Kd.V_nil _ _ _ _ _ | exact Kd.Q_nil _ _ _ _ _ | exact Kd.S_nil _ _ _ _ _,hb_⟩
  ·rw [if_neg c7] at H
   have c7b0 : (a3 == a2) = false:=beq_eq_false_iff_ne.mpr c7
   have c7b1 : (a3 != a2) = true:=bne_iff_ne.mpr c7
   by_cases c18 : a3 = (-1)
   ·rw [if_pos c18] at H
    have c18b0 : (a3 == (-1)) = true:=beq_iff_eq.mpr c18
    have c18b1 : (a3 != (-1)) = false:=bne_eq_false_iff_eq.mpr c18
    clear c18
    replace H:=Option.bind_eq_some_iff.mp H
    obtain ⟨t5,A190,H⟩:=H
    try dsimp only at H
    have A19:=a0_ A190
    clear A190
    by_cases c20 : 0 ≤ a2
    ·rw [if_pos c20] at H
     have c20b0 : decide (0 ≤ a2) = true:=decide_eq_true c20
     clear c20
     by_cases c21 : a2 < (t5.length : Int)
     ·rw [if_pos c21] at H
      have c21b0 : decide (a2 < (t5.length : Int)) = true:=decide_eq_true c21
      clear c21
      obtain ⟨y9,hy9⟩ : ∃ y_ : List (S43),y_ = (t5.set (a2 : Int).toNat (⟨(rd_T43 t5 a2).f0,(rd_T43 t5 a2).f1,a3,(rd_T43 t5 a2).f3,(rd_T43 t5 a2).f4⟩ : S43)):=⟨_,rfl⟩
      replace H : (some ((y9.set (a2 : Int).toNat (⟨(rd_T43 y9 a2).f0,(rd_T43 y9 a2).f1,(rd_T43 y9 a2).f2,(rd_T43 y9 a2).f3,true⟩ : S43)),true)) = some (r1,r2):=by first | (rw [hy9];with_reducible exact H) | (have H2_:=(Option.bind_some _ _).symm.trans H;rw [hy9];with_reducible exact H2_) | (have H2_:=(Option.bind_some _ _).symm.trans H;with_reducible exact H2_) | with_reducible exact H | (rw [hy9];exact H) | exact H
      have Ny9:=a0_ hy9
      clear hy9
      obtain ⟨y10,hy10⟩ : ∃ y_ : List (S43),y_ = (y9.set (a2 : Int).toNat (⟨(rd_T43 y9 a2).f0,(rd_T43 y9 a2).f1,(rd_T43 y9 a2).f2,(rd_T43 y9 a2).f3,true⟩ : S43)):=⟨_,rfl⟩
      replace H : (some (y10,true)) = some (r1,r2):=by first | (rw [hy10];with_reducible exact H) | (have H2_:=(Option.bind_some _ _).symm.trans H;rw [hy10];with_reducible exact H2_) | (have H2_:=(Option.bind_some _ _).symm.trans H;with_reducible exact H2_) | with_reducible exact H | (rw [hy10];exact H) | exact H
      have Ny10:=a0_ hy10
      clear hy10
      simp only [Option.some.injEq,Prod.mk.injEq] at H
      obtain ⟨rfl,rfl⟩:=H
      go_enter Try.func25,Try.ntmps25
      go_wp2_with (first | ((with_reducible refine gate_dst (N:=4) rfl ?_);refine box_event ?hg (N:=4) ?hd (cs:=#[.slice A0_0 l0_0.length c0_0]) (t:=25) ?hr ?_;(case hd=>rfl);(case hg=>rfl);(case hr=>first | (go_simp;done) | (go_simp;rfl));intro gb1 hg w24 hbox hb;have BK1:=a0_ (hbox);have GW1:=a0_ ((by rw [hg];exact (below_size hb_) : w.heap.size ≤ gb1));have GE1:=a0_ ((by rw [hg];exact (below_size hb_) : w.heap.size ≤ gb1));replace HB:=a0_ (below_step hb_ hb);clear hb hbox hg) | ((with_reducible refine gate_dst (N:=5) rfl ?_);refine box_event ?hg (N:=5) ?hd (cs:=#[.slice A1_0 l1_0.length c1_0]) (t:=28) ?hr ?_;(case hd=>rfl);(case hg=>rfl);(case hr=>first | (go_simp;done) | (go_simp;rfl));intro gb2 hg w25 hbox hb;have n0_:=kb_ BK1 hb;have n1_:=a0_ (below_step hb_ hb);have n2_:=a0_ (hbox);have n3_:=a0_ ((by rw [hg];exact (below_size hb_) : w.heap.size ≤ gb2));have n4_:=a0_ ((by rw [hg];exact (below_size hb_) : w.heap.size ≤ gb2));have n5_:=a0_ ((by rw [hg];exact Nat.ne_of_lt (blk_lt (bb_ BK1.out)) : gb1 ≠ gb2));have n6_:=a0_ ((by rw [hg];exact Nat.ne_of_gt (blk_lt (bb_ BK1.out)) : gb2 ≠ gb1));clear BK1 HB;have BK1:=n0_;have HB:=n1_;have BK2:=n2_;have GW2:=n3_;have GE2:=n4_;have NB1_2:=n5_;have NB2_1:=n6_;clear n0_ n1_ n2_ n3_ n4_ n5_ n6_;clear hb hbox hg) | ((with_reducible refine gate_dst (N:=8) rfl ?_);refine box_event ?hg (N:=8) ?hd (cs:=#[.slice none 0 0]) (t:=28) ?hr ?_;(case hd=>rfl);(case hg=>rfl);(case hr=>first | (go_simp;done) | (go_simp;rfl));intro gb3 hg w26 hbox hb;have n0_:=kb_ BK1 hb;have n1_:=kb_ BK2 hb;have n2_:=a0_ (below_step hb_ hb);have n3_:=a0_ (hbox);have n4_:=a0_ ((by rw [hg];exact (below_size hb_) : w.heap.size ≤ gb3));have n5_:=a0_ ((by rw [hg];exact (below_size hb_) : w.heap.size ≤ gb3));have n6_:=a0_ ((by rw [hg];exact Nat.ne_of_lt (blk_lt (bb_ BK1.out)) : gb1 ≠ gb3));have n7_:=a0_ ((by rw [hg];exact Nat.ne_of_gt (blk_lt (bb_ BK1.out)) : gb3 ≠ gb1));have n8_:=a0_ ((by rw [hg];exact Nat.ne_of_lt (blk_lt (bb_ BK2.out)) : gb2 ≠ gb3));have n9_:=a0_ ((by rw [hg];exact Nat.ne_of_gt (blk_lt (bb_ BK2.out)) : gb3 ≠ gb2));clear BK1 BK2 HB;have BK1:=n0_;have BK2:=n1_;have HB:=n2_;have BK3:=n3_;have GW3:=n4_;have GE3:=n5_;have NB1_3:=n6_;have NB3_1:=n7_;have NB2_3:=n8_;have NB3_2:=n9_;clear n0_ n1_ n2_ n3_ n4_ n5_ n6_ n7_ n8_ n9_;clear hb hbox hg;have hnb27:=NB1_2.out;have hnc27:=NB2_1.out;have hnb28:=NB1_3.out;have hnc28:=NB3_1.out;have hcz29_0 : w26.cell? ⟨gb1,0,none⟩ = some (.slice A0_0 l0_0.length c0_0):=(blk_cell BK1.out 0).trans rfl;have hfz29_0:=blk_frozen BK1.out 0;have hnb30:=NB2_3.out;have hnc30:=NB3_2.out;have hcz31_0 : w26.cell? ⟨gb2,0,none⟩ = some (.slice A1_0 l1_0.length c1_0):=(blk_cell BK2.out 0).trans rfl;have hfz31_0:=blk_frozen BK2.out 0) | ((with_reducible refine gate_callee (f:=38) rfl ?_);refine goesL_ (some 14) rfl rfl Try.func38 (by kernel_rfl) rfl #[.agg #[.slice A0_0 l0_0.length c0_0],.agg #[.slice A1_0 l1_0.length c1_0],.int .i64 a2] rfl lm_ ?_;(with_reducible refine (spec_goodFault.calls k _ _ l0_0 _ _ l1_0 a2 true _ ?side1 ?side2 ?side3 ?side4 A5.out).mono ?_);(case side1=>exact cc_ (Kd.C_below HR0_0.out HB.out));(case side2=>exact HC0_0.out);(case side3=>exact cc_ (Kd.C_below HR1_0.out HB.out));(case side4=>exact HC1_0.out);rintro e w32 ⟨rfl,hb⟩;refine ⟨_,rfl,?_⟩;replace BK1:=kb_ BK1 hb;replace BK2:=kb_ BK2 hb;replace BK3:=kb_ BK3 hb;replace HB:=a0_ (below_step hb_ hb);(try clear hb);have hcz33_0 : w32.cell? ⟨gb2,0,none⟩ = some (.slice A1_0 l1_0.length c1_0):=(blk_cell BK2.out 0).trans rfl;have hfz33_0:=blk_frozen BK2.out 0) | ((with_reducible refine gate_callee (f:=49) rfl ?_);refine goesL_ (some 33) rfl rfl Try.func49 (by kernel_rfl) rfl #[.agg #[.slice A1_0 l1_0.length c1_0]] rfl lm_ ?_;(with_reducible refine (spec_copyHeap.calls _ _ l1_0 t5 _ ?side1 ?side2 A19.out).mono ?_);(case side1=>exact cc_ (Kd.C_below HR1_0.out HB.out));(case side2=>exact HC1_0.out);rintro e w34 ⟨v6,rfl,ho0,hb⟩;refine ⟨_,rfl,?_⟩;have HO7:=a0_ (Kd.R_lower ho0 (below_size hb_));replace BK1:=kb_ BK1 hb;replace BK2:=kb_ BK2 hb;replace BK3:=kb_ BK3 hb;replace HB:=a0_ (below_step hb_ hb);(try clear hb);(try clear ho0)) | ((with_reducible refine gate_dst (N:=10) rfl ?_);refine box_event ?hg (N:=10) ?hd (cs:=#[.slice none 0 0]) (t:=28) ?hr ?_;(case hd=>rfl);(case hg=>rfl);(case hr=>first | (go_simp;done) | (go_simp;rfl));intro gb8 hg w35 hbox hb;have n0_:=rb_ HO7 hb;have n1_:=kb_ BK1 hb;have n2_:=kb_ BK2 hb;have n3_:=kb_ BK3 hb;have n4_:=a0_ (below_step hb_ hb);have n5_:=a0_ (hbox);have n6_:=a0_ ((by rw [hg];exact (below_size hb_) : w.heap.size ≤ gb8));have n7_:=a0_ ((by rw [hg];exact (below_size hb_) : w.heap.size ≤ gb8));have n8_:=a0_ ((by rw [hg];exact Nat.ne_of_lt (blk_lt (bb_ BK1.out)) : gb1 ≠ gb8));have n9_:=a0_ ((by rw [hg];exact Nat.ne_of_gt (blk_lt (bb_ BK1.out)) : gb8 ≠ gb1));have n10_:=a0_ ((by rw [hg];exact Nat.ne_of_lt (blk_lt (bb_ BK2.out)) : gb2 ≠ gb8));have n11_:=a0_ ((by rw [hg];exact Nat.ne_of_gt (blk_lt (bb_ BK2.out)) : gb8 ≠ gb2));have n12_:=a0_ ((by rw [hg];exact Nat.ne_of_lt (blk_lt (bb_ BK3.out)) : gb3 ≠ gb8));have n13_:=a0_ ((by rw [hg];exact Nat.ne_of_gt (blk_lt (bb_ BK3.out)) : gb8 ≠ gb3));clear HO7 BK1;clear BK2 BK3 HB;have HO7:=n0_;have BK1:=n1_;have BK2:=n2_;have BK3:=n3_;have HB:=n4_;have BK8:=n5_;have GW8:=n6_;have GE8:=n7_;have NB1_8:=n8_;have NB8_1:=n9_;have NB2_8:=n10_;have NB8_2:=n11_;have NB3_8:=n12_;have NB8_3:=n13_;clear n0_ n1_ n2_ n3_ n4_ n5_ n6_ n7_ n8_ n9_ n10_ n11_ n12_ n13_;clear hb hbox hg;obtain ⟨Ao36,co36,eo36⟩:=Kd.R_slice HO7.out;subst eo36;have hnb37:=NB8_1.out;have hnc37:=NB1_8.out;have hnb38:=NB8_2.out;have hnc38:=NB2_8.out;have hnb39:=NB8_3.out;have hnc39:=NB3_8.out;have hcz40_0 : w35.cell? ⟨gb8,0,none⟩ = some (.slice none 0 0):=(blk_cell BK8.out 0).trans rfl;have hfz40_0:=blk_frozen BK8.out 0) | ((with_reducible refine gate_store (t:=28) (p:=10) rfl ?_);refine store_event (t:=28) (p:=10) (v:=?vo_w41) (w1:=(w35.setCell ⟨gb8,0,none⟩ (.slice Ao36 t5.length co36))) ?hg ?ho ?hn ?hr ?_;(case ho=>rfl);(case hg=>rfl);(case hn=>rfl);(case hr=>first | (go_simp;done) | (go_simp;rfl));intro w41 hw;have n0_ : Aside0 (Kd.R k43 43 w41 w.heap.size (fun _=>True) (.slice Ao36 t5.length co36) t5):=⟨(by rw [hw];exact (by (with_reducible repeat (first | apply Kd.R_alloc | apply Kd.R_drewN | apply Kd.R_drew));exact Kd.R_mono (Kd.R_far (p:=⟨gb8,0,none⟩) (Kd.R_types HO7.out BK8.out (by decide)) (fun _ hk=>hk.2) (.slice Ao36 t5.length co36)) (fun _ hk=>trivial)))⟩;have n1_ : Aside0 (w41.heap[gb1]? = some (.cells #[.slice A0_0 l0_0.length c0_0] 25 (0,0))):=⟨(by rw [hw];exact (bff_ BK1.out))⟩;have n2_ : Aside0 (w41.heap[gb2]? = some (.cells #[.slice A1_0 l1_0.length c1_0] 28 (0,0))):=⟨(by rw [hw];exact (bff_ BK2.out))⟩;have n3_ : Aside0 (w41.heap[gb3]? = some (.cells #[.slice none 0 0] 28 (0,0))):=⟨(by rw [hw];exact (bff_ BK3.out))⟩;have n4_ : Aside0 (w41.heap[gb8]? = some (.cells #[.slice Ao36 t5.length co36] 28 (0,0))):=⟨(by rw [hw];exact (by (with_reducible repeat (first | refine blk_drewN ?_ _ | refine blk_drew ?_ | refine blk_alloc ?_ _));refine blk_put (cs:=#[.slice none 0 0]) ?_ 0 _ rfl;(with_reducible repeat (first | refine blk_drewN ?_ _ | refine blk_drew ?_ | refine blk_alloc ?_ _));exact BK8.out))⟩;have n5_ : Aside0 (Below w.heap.size w w41):=⟨(by rw [hw];exact hb_)⟩;clear hw HO7;clear BK1 BK2;clear BK3 BK8 HB;have HO7:=n0_;have BK1:=n1_;have BK2:=n2_;have BK3:=n3_;have BK8:=n4_;have HB:=n5_;clear n0_ n1_ n2_ n3_ n4_ n5_;have hcz42_0 : w41.cell? ⟨gb8,0,none⟩ = some (.slice Ao36 t5.length co36):=(blk_cell BK8.out 0).trans rfl;have hfz42_0:=blk_frozen BK8.out 0;have p22 : 0 ≤ (a2 : Int):=of_decide_eq_true (by first | (with_reducible assumption) | assumption);have q22 : (a2 : Int) < ((t5.length : Int) : Int):=of_decide_eq_true (by first | (with_reducible assumption) | assumption);obtain ⟨go22,co22,eo22,gb22,gl22,cl22,HG22⟩:=Kd.R_form HO7.out (by omega);(first | cases eo22 | (injection eo22 with ea_ en_ ec_;(first | subst ea_ | (injection ea_ with ea_;subst ea_));subst ec_;clear en_));have GB22:=a0_ gb22;have GG22:=a0_ HG22;clear gb22 gl22 HG22;obtain ⟨ce22,hcl22,hM22,hcc22,hfr22⟩:=Kd.R_elem HO7.out z43 (a2 : Int) p22 q22;obtain rfl:=k43_openM hM22;have hx22_0 : w41.cell? ⟨go22,(a2 : Int).toNat * 5,none⟩ = some (.int .i64 ((rd_T43 t5 a2).f0)):=hcc22 0 _ rfl;have hx22_1 : w41.cell? ⟨go22,(a2 : Int).toNat * 5 + 1,none⟩ = some (.int .i64 ((rd_T43 t5 a2).f1)):=hcc22 1 _ rfl;have hx22_2 : w41.cell? ⟨go22,(a2 : Int).toNat * 5 + 2,none⟩ = some (.int .i64 ((rd_T43 t5 a2).f2)):=hcc22 2 _ rfl;have hx22_3 : w41.cell? ⟨go22,(a2 : Int).toNat * 5 + 3,none⟩ = some (.int .i64 ((rd_T43 t5 a2).f3)):=hcc22 3 _ rfl;have hx22_4 : w41.cell? ⟨go22,(a2 : Int).toNat * 5 + 4,none⟩ = some (.bool ((rd_T43 t5 a2).f4)):=hcc22 4 _ rfl;have hf22_0 : w41.frozen? ⟨go22,(a2 : Int).toNat * 5,none⟩ = false:=hfr22 0;have hf22_1 : w41.frozen? ⟨go22,(a2 : Int).toNat * 5 + 1,none⟩ = false:=hfr22 1;have hf22_2 : w41.frozen? ⟨go22,(a2 : Int).toNat * 5 + 2,none⟩ = false:=hfr22 2;have hf22_3 : w41.frozen? ⟨go22,(a2 : Int).toNat * 5 + 3,none⟩ = false:=hfr22 3;have hf22_4 : w41.frozen? ⟨go22,(a2 : Int).toNat * 5 + 4,none⟩ = false:=hfr22 4;clear hcl22 hcc22 hfr22 hM22;replace p22:=eq_true p22;replace q22:=eq_true q22;have HX43:=a0_ (show Kd.R k43 43 w41 w.heap.size (fun _=>True) (.slice (some ⟨go22,0,none⟩) t5.length co36) t5 from (rr_ HO7.out));obtain ⟨ce43,hcl43,hM43,hcc43,hfr43⟩:=Kd.R_elem HX43.out z43 (a2 : Int) (of_decide_eq_true (by first | (with_reducible assumption) | assumption)) (by have h_ : (a2 : Int) < ((t5.length : Int) : Int):=of_decide_eq_true (by first | (with_reducible assumption) | assumption);first | exact h_ | (have e_:=(Kd.R_reads' HO7.out).1;omega) | simpa using h_);obtain rfl:=k43_openM hM43;have HP43:=Kd.R_seg HX43.out (a2 : Int) (of_decide_eq_true (by first | (with_reducible assumption) | assumption)) (by have h_ : (a2 : Int) < ((t5.length : Int) : Int):=of_decide_eq_true (by first | (with_reducible assumption) | assumption);first | exact h_ | (have e_:=(Kd.R_reads' HO7.out).1;omega) | simpa using h_) (seg:=[.int .i64 a3]) (j:=2) hcl43 hcc43 (show 3 ≤ 5 from by decide) (x':=(⟨(rd_T43 t5 a2).f0,(rd_T43 t5 a2).f1,a3,(rd_T43 t5 a2).f3,(rd_T43 t5 a2).f4⟩ : S43)) (k43_mkM _ _ _ (⟨(rd_T43 t5 a2).f0,(rd_T43 t5 a2).f1,a3,(rd_T43 t5 a2).f3,(rd_T43 t5 a2).f4⟩ : S43) ) (fun _ hk=>hk);have hx43_2:=hcc43 2 _ rfl;(try simp only [show (k43).sz = 5 from rfl,Nat.mul_one,Nat.add_zero] at hx43_2);have hf43_2:=hfr43 2;(try simp only [show (k43).sz = 5 from rfl,Nat.mul_one,Nat.add_zero] at hf43_2);clear hcl43 hcc43 hfr43 hM43) | ((with_reducible refine gate_store (t:=3) (p:=39) rfl ?_);refine store_event (t:=3) (p:=39) (v:=?vo_w44) (w1:=(w41.setCell ⟨go22,(a2 : Int).toNat * 5 + 2,none⟩ (.int .i64 a3))) ?hg ?ho ?hn ?hr ?_;(case ho=>rfl);(case hg=>rfl);(case hn=>rfl);(case hr=>first | (go_simp;done) | (go_simp;rfl));intro w44 hw;have hg : w41.grownBy w44 (some go22):=(by rw [hw];exact HP43.2);have hp_ : Kd.R k43 43 w44 w.heap.size (fun _=>True) (.slice (some ⟨go22,0,none⟩) t5.length co36) y9:=(by rw [hw,Ny9.out];exact HP43.1);clear HP43;have n0_:=a0_ (blk_grown (bb_ BK1.out) hg (Kd.R_ne HO7.out BK1.out (by decide)));have n1_:=a0_ (blk_grown (bb_ BK2.out) hg (Kd.R_ne HO7.out BK2.out (by decide)));have n2_:=a0_ (blk_grown (bb_ BK3.out) hg (Kd.R_ne HO7.out BK3.out (by decide)));have n3_:=a0_ (hp_);have n4_:=a0_ (blk_grown (bb_ BK8.out) hg (Kd.R_ne HO7.out BK8.out (by decide)));have n5_:=a0_ ((by rw [hw];exact below_set (HB.out) GB22.out : Below w.heap.size w w44));clear BK1 BK2;clear BK3 HO7;clear BK8 HB;have BK1:=n0_;have BK2:=n1_;have BK3:=n2_;have HO7:=n3_;have BK8:=n4_;have HB:=n5_;clear n0_ n1_ n2_ n3_ n4_ n5_;clear hg hw hp_;have hcz45_0 : w44.cell? ⟨gb8,0,none⟩ = some (.slice (some ⟨go22,0,none⟩) t5.length co36):=(blk_cell BK8.out 0).trans rfl;have hfz45_0:=blk_frozen BK8.out 0;have p23 : 0 ≤ (a2 : Int):=of_decide_eq_true (by first | (with_reducible assumption) | assumption);have q23 : (a2 : Int) < ((t5.length : Int) : Int):=of_decide_eq_true (by first | (with_reducible assumption) | assumption);obtain ⟨ce23,hcl23,hM23,hcc23,hfr23⟩:=Kd.R_elem HO7.out z43 (a2 : Int) p23 q23;obtain rfl:=k43_openM hM23;have hx23_0 : w44.cell? ⟨go22,(a2 : Int).toNat * 5,none⟩ = some (.int .i64 ((rd_T43 y9 a2).f0)):=hcc23 0 _ rfl;have hx23_1 : w44.cell? ⟨go22,(a2 : Int).toNat * 5 + 1,none⟩ = some (.int .i64 ((rd_T43 y9 a2).f1)):=hcc23 1 _ rfl;have hx23_2 : w44.cell? ⟨go22,(a2 : Int).toNat * 5 + 2,none⟩ = some (.int .i64 ((rd_T43 y9 a2).f2)):=hcc23 2 _ rfl;have hx23_3 : w44.cell? ⟨go22,(a2 : Int).toNat * 5 + 3,none⟩ = some (.int .i64 ((rd_T43 y9 a2).f3)):=hcc23 3 _ rfl;have hx23_4 : w44.cell? ⟨go22,(a2 : Int).toNat * 5 + 4,none⟩ = some (.bool ((rd_T43 y9 a2).f4)):=hcc23 4 _ rfl;have hf23_0 : w44.frozen? ⟨go22,(a2 : Int).toNat * 5,none⟩ = false:=hfr23 0;have hf23_1 : w44.frozen? ⟨go22,(a2 : Int).toNat * 5 + 1,none⟩ = false:=hfr23 1;have hf23_2 : w44.frozen? ⟨go22,(a2 : Int).toNat * 5 + 2,none⟩ = false:=hfr23 2;have hf23_3 : w44.frozen? ⟨go22,(a2 : Int).toNat * 5 + 3,none⟩ = false:=hfr23 3;have hf23_4 : w44.frozen? ⟨go22,(a2 : Int).toNat * 5 + 4,none⟩ = false:=hfr23 4;clear hcl23 hcc23 hfr23 hM23;replace p23:=eq_true p23;replace q23:=eq_true q23;have HX46:=a0_ (show Kd.R k43 43 w44 w.heap.size (fun _=>True) (.slice (some ⟨go22,0,none⟩) t5.length co36) y9 from (rr_ HO7.out));obtain ⟨ce46,hcl46,hM46,hcc46,hfr46⟩:=Kd.R_elem HX46.out z43 (a2 : Int) (of_decide_eq_true (by first | (with_reducible assumption) | assumption)) (by have h_ : (a2 : Int) < ((t5.length : Int) : Int):=of_decide_eq_true (by first | (with_reducible assumption) | assumption);first | exact h_ | (have e_:=(Kd.R_reads' HO7.out).1;omega) | simpa using h_);obtain rfl:=k43_openM hM46;have HP46:=Kd.R_seg HX46.out (a2 : Int) (of_decide_eq_true (by first | (with_reducible assumption) | assumption)) (by have h_ : (a2 : Int) < ((t5.length : Int) : Int):=of_decide_eq_true (by first | (with_reducible assumption) | assumption);first | exact h_ | (have e_:=(Kd.R_reads' HO7.out).1;omega) | simpa using h_) (seg:=[.bool true]) (j:=4) hcl46 hcc46 (show 5 ≤ 5 from by decide) (x':=(⟨(rd_T43 y9 a2).f0,(rd_T43 y9 a2).f1,(rd_T43 y9 a2).f2,(rd_T43 y9 a2).f3,true⟩ : S43)) (k43_mkM _ _ _ (⟨(rd_T43 y9 a2).f0,(rd_T43 y9 a2).f1,(rd_T43 y9 a2).f2,(rd_T43 y9 a2).f3,true⟩ : S43) ) (fun _ hk=>hk);have hx46_4:=hcc46 4 _ rfl;(try simp only [show (k43).sz = 5 from rfl,Nat.mul_one,Nat.add_zero] at hx46_4);have hf46_4:=hfr46 4;(try simp only [show (k43).sz = 5 from rfl,Nat.mul_one,Nat.add_zero] at hf46_4);clear hcl46 hcc46 hfr46 hM46) | ((with_reducible refine gate_store (t:=4) (p:=44) rfl ?_);refine store_event (t:=4) (p:=44) (v:=?vo_w47) (w1:=(w44.setCell ⟨go22,(a2 : Int).toNat * 5 + 4,none⟩ (.bool true))) ?hg ?ho ?hn ?hr ?_;(case ho=>rfl);(case hg=>rfl);(case hn=>rfl);(case hr=>first | (go_simp;done) | (go_simp;rfl));intro w47 hw;have hg : w44.grownBy w47 (some go22):=(by rw [hw];exact HP46.2);have hp_ : Kd.R k43 43 w47 w.heap.size (fun _=>True) (.slice (some ⟨go22,0,none⟩) t5.length co36) y10:=(by rw [hw,Ny10.out];exact HP46.1);clear HP46;have n0_:=a0_ (blk_grown (bb_ BK1.out) hg (Kd.R_ne HO7.out BK1.out (by decide)));have n1_:=a0_ (blk_grown (bb_ BK2.out) hg (Kd.R_ne HO7.out BK2.out (by decide)));have n2_:=a0_ (blk_grown (bb_ BK3.out) hg (Kd.R_ne HO7.out BK3.out (by decide)));have n3_:=a0_ (hp_);have n4_:=a0_ (blk_grown (bb_ BK8.out) hg (Kd.R_ne HO7.out BK8.out (by decide)));have n5_:=a0_ ((by rw [hw];exact below_set (HB.out) GB22.out : Below w.heap.size w w47));clear BK1 BK2;clear BK3 HO7;clear BK8 HB;have BK1:=n0_;have BK2:=n1_;have BK3:=n2_;have HO7:=n3_;have BK8:=n4_;have HB:=n5_;clear n0_ n1_ n2_ n3_ n4_ n5_;clear hg hw hp_;have hcz48_0 : w47.cell? ⟨gb8,0,none⟩ = some (.slice (some ⟨go22,0,none⟩) t5.length co36):=(blk_cell BK8.out 0).trans rfl;have hfz48_0:=blk_frozen BK8.out 0;have hcz49_0 : w47.cell? ⟨gb3,0,none⟩ = some (.slice none 0 0):=(blk_cell BK3.out 0).trans rfl;have hfz49_0:=blk_frozen BK3.out 0))
      refine bodyPost_ret (results_ct rfl _ _ gb3 28 #[.slice (some ⟨go22,0,none⟩) t5.length co36] (0,0) _ rfl (by (with_reducible repeat (first | refine blk_drewN ?_ _ | refine blk_drew ?_ | refine blk_alloc ?_ _));refine blk_put (cs:=#[.slice none 0 0]) ?_ 0 _ rfl;(with_reducible repeat (first | refine blk_drewN ?_ _ | refine blk_drew ?_ | refine blk_alloc ?_ _));exact BK3.out) Try.underlying28 rfl (by kernel_rfl)) rfl ?_
      exact ⟨_,by first | rfl | (simp [errW_none,errW_some] <;> rfl) | (simp [*,errW_none,errW_some] <;> rfl),by (with_reducible repeat (first | apply Kd.R_alloc | apply Kd.R_drewN | apply Kd.R_drew));exact Kd.R_mono (Kd.R_far (p:=⟨gb3,0,none⟩) (Kd.R_types HO7.out BK3.out (by decide)) (fun _ hk=>hk.2) (.slice (some ⟨go22,0,none⟩) t5.length co36)) (fun _ hk=>trivial),hb_⟩
     ·rw [if_neg c21] at H
      exact absurd H (by simp)
    ·rw [if_neg c20] at H
     exact absurd H (by simp)
   ·rw [if_neg c18] at H
    have c18b0 : (a3 == (-1)) = false:=beq_eq_false_iff_ne.mpr c18
    have c18b1 : (a3 != (-1)) = true:=bne_iff_ne.mpr c18
    replace H:=Option.bind_eq_some_iff.mp H
    obtain ⟨t11,A500,H⟩:=H
    try dsimp only at H
    have A50:=a0_ A500
    clear A500
    by_cases c51 : t11 = true
    ·subst c51
     have H1 : ((spec_copyHeap.f l1_0).bind fun t12=>(if 0 ≤ a2 then (if a2 < (t12.length : Int) then ((some (t12.set (a2 : Int).toNat (⟨(rd_T43 t12 a2).f0,(rd_T43 t12 a2).f1,a3,(rd_T43 t12 a2).f3,(rd_T43 t12 a2).f4⟩ : S43) : List (S43))).bind fun y16=>(some ((y16.set (a2 : Int).toNat (⟨(rd_T43 y16 a2).f0,(rd_T43 y16 a2).f1,(rd_T43 y16 a2).f2,(rd_T43 y16 a2).f3,true⟩ : S43)),true))) else (none)) else (none))) = some (r1,r2):=by rw [if_pos rfl] at H;exact H
     clear H
     have H:=H1
     clear H1
     replace H:=Option.bind_eq_some_iff.mp H
     obtain ⟨t12,A520,H⟩:=H
     try dsimp only at H
     have A52:=a0_ A520
     clear A520
     by_cases c53 : 0 ≤ a2
     ·rw [if_pos c53] at H
      have c53b0 : decide (0 ≤ a2) = true:=decide_eq_true c53
      clear c53
      by_cases c54 : a2 < (t12.length : Int)
      ·rw [if_pos c54] at H
       have c54b0 : decide (a2 < (t12.length : Int)) = true:=decide_eq_true c54
       clear c54
       obtain ⟨y16,hy16⟩ : ∃ y_ : List (S43),y_ = (t12.set (a2 : Int).toNat (⟨(rd_T43 t12 a2).f0,(rd_T43 t12 a2).f1,a3,(rd_T43 t12 a2).f3,(rd_T43 t12 a2).f4⟩ : S43)):=⟨_,rfl⟩
       replace H : (some ((y16.set (a2 : Int).toNat (⟨(rd_T43 y16 a2).f0,(rd_T43 y16 a2).f1,(rd_T43 y16 a2).f2,(rd_T43 y16 a2).f3,true⟩ : S43)),true)) = some (r1,r2):=by first | (rw [hy16];with_reducible exact H) | (have H2_:=(Option.bind_some _ _).symm.trans H;rw [hy16];with_reducible exact H2_) | (have H2_:=(Option.bind_some _ _).symm.trans H;with_reducible exact H2_) | with_reducible exact H | (rw [hy16];exact H) | exact H
       have Ny16:=a0_ hy16
       clear hy16
       obtain ⟨y17,hy17⟩ : ∃ y_ : List (S43),y_ = (y16.set (a2 : Int).toNat (⟨(rd_T43 y16 a2).f0,(rd_T43 y16 a2).f1,(rd_T43 y16 a2).f2,(rd_T43 y16 a2).f3,true⟩ : S43)):=⟨_,rfl⟩
       replace H : (some (y17,true)) = some (r1,r2):=by first | (rw [hy17];with_reducible exact H) | (have H2_:=(Option.bind_some _ _).symm.trans H;rw [hy17];with_reducible exact H2_) | (have H2_:=(Option.bind_some _ _).symm.trans H;with_reducible exact H2_) | with_reducible exact H | (rw [hy17];exact H) | exact H
       have Ny17:=a0_ hy17
       clear hy17
       simp only [Option.some.injEq,Prod.mk.injEq] at H
       obtain ⟨rfl,rfl⟩:=H
       go_enter Try.func25,Try.ntmps25
       go_wp2_with (first | ((with_reducible refine gate_dst (N:=4) rfl ?_);refine box_event ?hg (N:=4) ?hd (cs:=#[.slice A0_0 l0_0.length c0_0]) (t:=25) ?hr ?_;(case hd=>rfl);(case hg=>rfl);(case hr=>first | (go_simp;done) | (go_simp;rfl));intro gb1 hg w57 hbox hb;have BK1:=a0_ (hbox);have GW1:=a0_ ((by rw [hg];exact (below_size hb_) : w.heap.size ≤ gb1));have GE1:=a0_ ((by rw [hg];exact (below_size hb_) : w.heap.size ≤ gb1));replace HB:=a0_ (below_step hb_ hb);clear hb hbox hg) | ((with_reducible refine gate_dst (N:=5) rfl ?_);refine box_event ?hg (N:=5) ?hd (cs:=#[.slice A1_0 l1_0.length c1_0]) (t:=28) ?hr ?_;(case hd=>rfl);(case hg=>rfl);(case hr=>first | (go_simp;done) | (go_simp;rfl));intro gb2 hg w58 hbox hb;have n0_:=kb_ BK1 hb;have n1_:=a0_ (below_step hb_ hb);have n2_:=a0_ (hbox);have n3_:=a0_ ((by rw [hg];exact (below_size hb_) : w.heap.size ≤ gb2));have n4_:=a0_ ((by rw [hg];exact (below_size hb_) : w.heap.size ≤ gb2));have n5_:=a0_ ((by rw [hg];exact Nat.ne_of_lt (blk_lt (bb_ BK1.out)) : gb1 ≠ gb2));have n6_:=a0_ ((by rw [hg];exact Nat.ne_of_gt (blk_lt (bb_ BK1.out)) : gb2 ≠ gb1));clear BK1 HB;have BK1:=n0_;have HB:=n1_;have BK2:=n2_;have GW2:=n3_;have GE2:=n4_;have NB1_2:=n5_;have NB2_1:=n6_;clear n0_ n1_ n2_ n3_ n4_ n5_ n6_;clear hb hbox hg) | ((with_reducible refine gate_dst (N:=8) rfl ?_);refine box_event ?hg (N:=8) ?hd (cs:=#[.slice none 0 0]) (t:=28) ?hr ?_;(case hd=>rfl);(case hg=>rfl);(case hr=>first | (go_simp;done) | (go_simp;rfl));intro gb3 hg w59 hbox hb;have n0_:=kb_ BK1 hb;have n1_:=kb_ BK2 hb;have n2_:=a0_ (below_step hb_ hb);have n3_:=a0_ (hbox);have n4_:=a0_ ((by rw [hg];exact (below_size hb_) : w.heap.size ≤ gb3));have n5_:=a0_ ((by rw [hg];exact (below_size hb_) : w.heap.size ≤ gb3));have n6_:=a0_ ((by rw [hg];exact Nat.ne_of_lt (blk_lt (bb_ BK1.out)) : gb1 ≠ gb3));have n7_:=a0_ ((by rw [hg];exact Nat.ne_of_gt (blk_lt (bb_ BK1.out)) : gb3 ≠ gb1));have n8_:=a0_ ((by rw [hg];exact Nat.ne_of_lt (blk_lt (bb_ BK2.out)) : gb2 ≠ gb3));have n9_:=a0_ ((by rw [hg];exact Nat.ne_of_gt (blk_lt (bb_ BK2.out)) : gb3 ≠ gb2));clear BK1 BK2 HB;have BK1:=n0_;have BK2:=n1_;have HB:=n2_;have BK3:=n3_;have GW3:=n4_;have GE3:=n5_;have NB1_3:=n6_;have NB3_1:=n7_;have NB2_3:=n8_;have NB3_2:=n9_;clear n0_ n1_ n2_ n3_ n4_ n5_ n6_ n7_ n8_ n9_;clear hb hbox hg;have hnb60:=NB1_2.out;have hnc60:=NB2_1.out;have hnb61:=NB1_3.out;have hnc61:=NB3_1.out;have hcz62_0 : w59.cell? ⟨gb1,0,none⟩ = some (.slice A0_0 l0_0.length c0_0):=(blk_cell BK1.out 0).trans rfl;have hfz62_0:=blk_frozen BK1.out 0;have hnb63:=NB2_3.out;have hnc63:=NB3_2.out;have hcz64_0 : w59.cell? ⟨gb2,0,none⟩ = some (.slice A1_0 l1_0.length c1_0):=(blk_cell BK2.out 0).trans rfl;have hfz64_0:=blk_frozen BK2.out 0) | ((with_reducible refine gate_callee (f:=38) rfl ?_);refine goesL_ (some 14) rfl rfl Try.func38 (by kernel_rfl) rfl #[.agg #[.slice A0_0 l0_0.length c0_0],.agg #[.slice A1_0 l1_0.length c1_0],.int .i64 a2] rfl lm_ ?_;(with_reducible refine (spec_goodFault.calls k _ _ l0_0 _ _ l1_0 a2 true _ ?side1 ?side2 ?side3 ?side4 A5.out).mono ?_);(case side1=>exact cc_ (Kd.C_below HR0_0.out HB.out));(case side2=>exact HC0_0.out);(case side3=>exact cc_ (Kd.C_below HR1_0.out HB.out));(case side4=>exact HC1_0.out);rintro e w65 ⟨rfl,hb⟩;refine ⟨_,rfl,?_⟩;replace BK1:=kb_ BK1 hb;replace BK2:=kb_ BK2 hb;replace BK3:=kb_ BK3 hb;replace HB:=a0_ (below_step hb_ hb);(try clear hb);have hcz66_0 : w65.cell? ⟨gb2,0,none⟩ = some (.slice A1_0 l1_0.length c1_0):=(blk_cell BK2.out 0).trans rfl;have hfz66_0:=blk_frozen BK2.out 0) | (go_at_call 52;(with_reducible refine (spec_hasFault.calls _ _ l1_0 a3 true _ ?side1 ?side2 A50.out).mono ?_);(case side1=>exact cc_ (Kd.C_below HR1_0.out HB.out));(case side2=>exact HC1_0.out);rintro e w67 ⟨rfl,hb⟩;replace BK1:=kb_ BK1 hb;replace BK2:=kb_ BK2 hb;replace BK3:=kb_ BK3 hb;replace HB:=a0_ (below_step hb_ hb);(try clear hb);have hcz68_0 : w67.cell? ⟨gb2,0,none⟩ = some (.slice A1_0 l1_0.length c1_0):=(blk_cell BK2.out 0).trans rfl;have hfz68_0:=blk_frozen BK2.out 0) | ((with_reducible refine gate_callee (f:=49) rfl ?_);refine goesL_ (some 33) rfl rfl Try.func49 (by kernel_rfl) rfl #[.agg #[.slice A1_0 l1_0.length c1_0]] rfl lm_ ?_;(with_reducible refine (spec_copyHeap.calls _ _ l1_0 t12 _ ?side1 ?side2 A52.out).mono ?_);(case side1=>exact cc_ (Kd.C_below HR1_0.out HB.out));(case side2=>exact HC1_0.out);rintro e w69 ⟨v13,rfl,ho0,hb⟩;refine ⟨_,rfl,?_⟩;have HO14:=a0_ (Kd.R_lower ho0 (below_size hb_));replace BK1:=kb_ BK1 hb;replace BK2:=kb_ BK2 hb;replace BK3:=kb_ BK3 hb;replace HB:=a0_ (below_step hb_ hb);(try clear hb);(try clear ho0)) | ((with_reducible refine gate_dst (N:=10) rfl ?_);refine box_event ?hg (N:=10) ?hd (cs:=#[.slice none 0 0]) (t:=28) ?hr ?_;(case hd=>rfl);(case hg=>rfl);(case hr=>first | (go_simp;done) | (go_simp;rfl));intro gb15 hg w70 hbox hb;have n0_:=rb_ HO14 hb;have n1_:=kb_ BK1 hb;have n2_:=kb_ BK2 hb;have n3_:=kb_ BK3 hb;have n4_:=a0_ (below_step hb_ hb);have n5_:=a0_ (hbox);have n6_:=a0_ ((by rw [hg];exact (below_size hb_) : w.heap.size ≤ gb15));have n7_:=a0_ ((by rw [hg];exact (below_size hb_) : w.heap.size ≤ gb15));have n8_:=a0_ ((by rw [hg];exact Nat.ne_of_lt (blk_lt (bb_ BK1.out)) : gb1 ≠ gb15));have n9_:=a0_ ((by rw [hg];exact Nat.ne_of_gt (blk_lt (bb_ BK1.out)) : gb15 ≠ gb1));have n10_:=a0_ ((by rw [hg];exact Nat.ne_of_lt (blk_lt (bb_ BK2.out)) : gb2 ≠ gb15));have n11_:=a0_ ((by rw [hg];exact Nat.ne_of_gt (blk_lt (bb_ BK2.out)) : gb15 ≠ gb2));have n12_:=a0_ ((by rw [hg];exact Nat.ne_of_lt (blk_lt (bb_ BK3.out)) : gb3 ≠ gb15));have n13_:=a0_ ((by rw [hg];exact Nat.ne_of_gt (blk_lt (bb_ BK3.out)) : gb15 ≠ gb3));clear HO14 BK1;clear BK2 BK3 HB;have HO14:=n0_;have BK1:=n1_;have BK2:=n2_;have BK3:=n3_;have HB:=n4_;have BK15:=n5_;have GW15:=n6_;have GE15:=n7_;have NB1_15:=n8_;have NB15_1:=n9_;have NB2_15:=n10_;have NB15_2:=n11_;have NB3_15:=n12_;have NB15_3:=n13_;clear n0_ n1_ n2_ n3_ n4_ n5_ n6_ n7_ n8_ n9_ n10_ n11_ n12_ n13_;clear hb hbox hg;obtain ⟨Ao71,co71,eo71⟩:=Kd.R_slice HO14.out;subst eo71;have hnb72:=NB15_1.out;have hnc72:=NB1_15.out;have hnb73:=NB15_2.out;have hnc73:=NB2_15.out;have hnb74:=NB15_3.out;have hnc74:=NB3_15.out;have hcz75_0 : w70.cell? ⟨gb15,0,none⟩ = some (.slice none 0 0):=(blk_cell BK15.out 0).trans rfl;have hfz75_0:=blk_frozen BK15.out 0) | ((with_reducible refine gate_store (t:=28) (p:=10) rfl ?_);refine store_event (t:=28) (p:=10) (v:=?vo_w76) (w1:=(w70.setCell ⟨gb15,0,none⟩ (.slice Ao71 t12.length co71))) ?hg ?ho ?hn ?hr ?_;(case ho=>rfl);(case hg=>rfl);(case hn=>rfl);(case hr=>first | (go_simp;done) | (go_simp;rfl));intro w76 hw;have n0_ : Aside0 (Kd.R k43 43 w76 w.heap.size (fun _=>True) (.slice Ao71 t12.length co71) t12):=⟨(by rw [hw];exact (by (with_reducible repeat (first | apply Kd.R_alloc | apply Kd.R_drewN | apply Kd.R_drew));exact Kd.R_mono (Kd.R_far (p:=⟨gb15,0,none⟩) (Kd.R_types HO14.out BK15.out (by decide)) (fun _ hk=>hk.2) (.slice Ao71 t12.length co71)) (fun _ hk=>trivial)))⟩;have n1_ : Aside0 (w76.heap[gb1]? = some (.cells #[.slice A0_0 l0_0.length c0_0] 25 (0,0))):=⟨(by rw [hw];exact (bff_ BK1.out))⟩;have n2_ : Aside0 (w76.heap[gb2]? = some (.cells #[.slice A1_0 l1_0.length c1_0] 28 (0,0))):=⟨(by rw [hw];exact (bff_ BK2.out))⟩;have n3_ : Aside0 (w76.heap[gb3]? = some (.cells #[.slice none 0 0] 28 (0,0))):=⟨(by rw [hw];exact (bff_ BK3.out))⟩;have n4_ : Aside0 (w76.heap[gb15]? = some (.cells #[.slice Ao71 t12.length co71] 28 (0,0))):=⟨(by rw [hw];exact (by (with_reducible repeat (first | refine blk_drewN ?_ _ | refine blk_drew ?_ | refine blk_alloc ?_ _));refine blk_put (cs:=#[.slice none 0 0]) ?_ 0 _ rfl;(with_reducible repeat (first | refine blk_drewN ?_ _ | refine blk_drew ?_ | refine blk_alloc ?_ _));exact BK15.out))⟩;have n5_ : Aside0 (Below w.heap.size w w76):=⟨(by rw [hw];exact hb_)⟩;clear hw HO14;clear BK1 BK2;clear BK3 BK15 HB;have HO14:=n0_;have BK1:=n1_;have BK2:=n2_;have BK3:=n3_;have BK15:=n4_;have HB:=n5_;clear n0_ n1_ n2_ n3_ n4_ n5_;have hcz77_0 : w76.cell? ⟨gb15,0,none⟩ = some (.slice Ao71 t12.length co71):=(blk_cell BK15.out 0).trans rfl;have hfz77_0:=blk_frozen BK15.out 0;have p55 : 0 ≤ (a2 : Int):=of_decide_eq_true (by first | (with_reducible assumption) | assumption);have q55 : (a2 : Int) < ((t12.length : Int) : Int):=of_decide_eq_true (by first | (with_reducible assumption) | assumption);obtain ⟨go55,co55,eo55,gb55,gl55,cl55,HG55⟩:=Kd.R_form HO14.out (by omega);(first | cases eo55 | (injection eo55 with ea_ en_ ec_;(first | subst ea_ | (injection ea_ with ea_;subst ea_));subst ec_;clear en_));have GB55:=a0_ gb55;have GG55:=a0_ HG55;clear gb55 gl55 HG55;obtain ⟨ce55,hcl55,hM55,hcc55,hfr55⟩:=Kd.R_elem HO14.out z43 (a2 : Int) p55 q55;obtain rfl:=k43_openM hM55;have hx55_0 : w76.cell? ⟨go55,(a2 : Int).toNat * 5,none⟩ = some (.int .i64 ((rd_T43 t12 a2).f0)):=hcc55 0 _ rfl;have hx55_1 : w76.cell? ⟨go55,(a2 : Int).toNat * 5 + 1,none⟩ = some (.int .i64 ((rd_T43 t12 a2).f1)):=hcc55 1 _ rfl;have hx55_2 : w76.cell? ⟨go55,(a2 : Int).toNat * 5 + 2,none⟩ = some (.int .i64 ((rd_T43 t12 a2).f2)):=hcc55 2 _ rfl;have hx55_3 : w76.cell? ⟨go55,(a2 : Int).toNat * 5 + 3,none⟩ = some (.int .i64 ((rd_T43 t12 a2).f3)):=hcc55 3 _ rfl;have hx55_4 : w76.cell? ⟨go55,(a2 : Int).toNat * 5 + 4,none⟩ = some (.bool ((rd_T43 t12 a2).f4)):=hcc55 4 _ rfl;have hf55_0 : w76.frozen? ⟨go55,(a2 : Int).toNat * 5,none⟩ = false:=hfr55 0;have hf55_1 : w76.frozen? ⟨go55,(a2 : Int).toNat * 5 + 1,none⟩ = false:=hfr55 1;have hf55_2 : w76.frozen? ⟨go55,(a2 : Int).toNat * 5 + 2,none⟩ = false:=hfr55 2;have hf55_3 : w76.frozen? ⟨go55,(a2 : Int).toNat * 5 + 3,none⟩ = false:=hfr55 3;have hf55_4 : w76.frozen? ⟨go55,(a2 : Int).toNat * 5 + 4,none⟩ = false:=hfr55 4;clear hcl55 hcc55 hfr55 hM55;replace p55:=eq_true p55;replace q55:=eq_true q55;have HX78:=a0_ (show Kd.R k43 43 w76 w.heap.size (fun _=>True) (.slice (some ⟨go55,0,none⟩) t12.length co71) t12 from (rr_ HO14.out));obtain ⟨ce78,hcl78,hM78,hcc78,hfr78⟩:=Kd.R_elem HX78.out z43 (a2 : Int) (of_decide_eq_true (by first | (with_reducible assumption) | assumption)) (by have h_ : (a2 : Int) < ((t12.length : Int) : Int):=of_decide_eq_true (by first | (with_reducible assumption) | assumption);first | exact h_ | (have e_:=(Kd.R_reads' HO14.out).1;omega) | simpa using h_);obtain rfl:=k43_openM hM78;have HP78:=Kd.R_seg HX78.out (a2 : Int) (of_decide_eq_true (by first | (with_reducible assumption) | assumption)) (by have h_ : (a2 : Int) < ((t12.length : Int) : Int):=of_decide_eq_true (by first | (with_reducible assumption) | assumption);first | exact h_ | (have e_:=(Kd.R_reads' HO14.out).1;omega) | simpa using h_) (seg:=[.int .i64 a3]) (j:=2) hcl78 hcc78 (show 3 ≤ 5 from by decide) (x':=(⟨(rd_T43 t12 a2).f0,(rd_T43 t12 a2).f1,a3,(rd_T43 t12 a2).f3,(rd_T43 t12 a2).f4⟩ : S43)) (k43_mkM _ _ _ (⟨(rd_T43 t12 a2).f0,(rd_T43 t12 a2).f1,a3,(rd_T43 t12 a2).f3,(rd_T43 t12 a2).f4⟩ : S43) ) (fun _ hk=>hk);have hx78_2:=hcc78 2 _ rfl;(try simp only [show (k43).sz = 5 from rfl,Nat.mul_one,Nat.add_zero] at hx78_2);have hf78_2:=hfr78 2;(try simp only [show (k43).sz = 5 from rfl,Nat.mul_one,Nat.add_zero] at hf78_2);clear hcl78 hcc78 hfr78 hM78) | ((with_reducible refine gate_store (t:=3) (p:=39) rfl ?_);refine store_event (t:=3) (p:=39) (v:=?vo_w79) (w1:=(w76.setCell ⟨go55,(a2 : Int).toNat * 5 + 2,none⟩ (.int .i64 a3))) ?hg ?ho ?hn ?hr ?_;(case ho=>rfl);(case hg=>rfl);(case hn=>rfl);(case hr=>first | (go_simp;done) | (go_simp;rfl));intro w79 hw;have hg : w76.grownBy w79 (some go55):=(by rw [hw];exact HP78.2);have hp_ : Kd.R k43 43 w79 w.heap.size (fun _=>True) (.slice (some ⟨go55,0,none⟩) t12.length co71) y16:=(by rw [hw,Ny16.out];exact HP78.1);clear HP78;have n0_:=a0_ (blk_grown (bb_ BK1.out) hg (Kd.R_ne HO14.out BK1.out (by decide)));have n1_:=a0_ (blk_grown (bb_ BK2.out) hg (Kd.R_ne HO14.out BK2.out (by decide)));have n2_:=a0_ (blk_grown (bb_ BK3.out) hg (Kd.R_ne HO14.out BK3.out (by decide)));have n3_:=a0_ (hp_);have n4_:=a0_ (blk_grown (bb_ BK15.out) hg (Kd.R_ne HO14.out BK15.out (by decide)));have n5_:=a0_ ((by rw [hw];exact below_set (HB.out) GB55.out : Below w.heap.size w w79));clear BK1 BK2;clear BK3 HO14;clear BK15 HB;have BK1:=n0_;have BK2:=n1_;have BK3:=n2_;have HO14:=n3_;have BK15:=n4_;have HB:=n5_;clear n0_ n1_ n2_ n3_ n4_ n5_;clear hg hw hp_;have hcz80_0 : w79.cell? ⟨gb15,0,none⟩ = some (.slice (some ⟨go55,0,none⟩) t12.length co71):=(blk_cell BK15.out 0).trans rfl;have hfz80_0:=blk_frozen BK15.out 0;have p56 : 0 ≤ (a2 : Int):=of_decide_eq_true (by first | (with_reducible assumption) | assumption);have q56 : (a2 : Int) < ((t12.length : Int) : Int):=of_decide_eq_true (by first | (with_reducible assumption) | assumption);obtain ⟨ce56,hcl56,hM56,hcc56,hfr56⟩:=Kd.R_elem HO14.out z43 (a2 : Int) p56 q56;obtain rfl:=k43_openM hM56;have hx56_0 : w79.cell? ⟨go55,(a2 : Int).toNat * 5,none⟩ = some (.int .i64 ((rd_T43 y16 a2).f0)):=hcc56 0 _ rfl;have hx56_1 : w79.cell? ⟨go55,(a2 : Int).toNat * 5 + 1,none⟩ = some (.int .i64 ((rd_T43 y16 a2).f1)):=hcc56 1 _ rfl;have hx56_2 : w79.cell? ⟨go55,(a2 : Int).toNat * 5 + 2,none⟩ = some (.int .i64 ((rd_T43 y16 a2).f2)):=hcc56 2 _ rfl;have hx56_3 : w79.cell? ⟨go55,(a2 : Int).toNat * 5 + 3,none⟩ = some (.int .i64 ((rd_T43 y16 a2).f3)):=hcc56 3 _ rfl;have hx56_4 : w79.cell? ⟨go55,(a2 : Int).toNat * 5 + 4,none⟩ = some (.bool ((rd_T43 y16 a2).f4)):=hcc56 4 _ rfl;have hf56_0 : w79.frozen? ⟨go55,(a2 : Int).toNat * 5,none⟩ = false:=hfr56 0;have hf56_1 : w79.frozen? ⟨go55,(a2 : Int).toNat * 5 + 1,none⟩ = false:=hfr56 1;have hf56_2 : w79.frozen? ⟨go55,(a2 : Int).toNat * 5 + 2,none⟩ = false:=hfr56 2;have hf56_3 : w79.frozen? ⟨go55,(a2 : Int).toNat * 5 + 3,none⟩ = false:=hfr56 3;have hf56_4 : w79.frozen? ⟨go55,(a2 : Int).toNat * 5 + 4,none⟩ = false:=hfr56 4;clear hcl56 hcc56 hfr56 hM56;replace p56:=eq_true p56;replace q56:=eq_true q56;have HX81:=a0_ (show Kd.R k43 43 w79 w.heap.size (fun _=>True) (.slice (some ⟨go55,0,none⟩) t12.length co71) y16 from (rr_ HO14.out));obtain ⟨ce81,hcl81,hM81,hcc81,hfr81⟩:=Kd.R_elem HX81.out z43 (a2 : Int) (of_decide_eq_true (by first | (with_reducible assumption) | assumption)) (by have h_ : (a2 : Int) < ((t12.length : Int) : Int):=of_decide_eq_true (by first | (with_reducible assumption) | assumption);first | exact h_ | (have e_:=(Kd.R_reads' HO14.out).1;omega) | simpa using h_);obtain rfl:=k43_openM hM81;have HP81:=Kd.R_seg HX81.out (a2 : Int) (of_decide_eq_true (by first | (with_reducible assumption) | assumption)) (by have h_ : (a2 : Int) < ((t12.length : Int) : Int):=of_decide_eq_true (by first | (with_reducible assumption) | assumption);first | exact h_ | (have e_:=(Kd.R_reads' HO14.out).1;omega) | simpa using h_) (seg:=[.bool true]) (j:=4) hcl81 hcc81 (show 5 ≤ 5 from by decide) (x':=(⟨(rd_T43 y16 a2).f0,(rd_T43 y16 a2).f1,(rd_T43 y16 a2).f2,(rd_T43 y16 a2).f3,true⟩ : S43)) (k43_mkM _ _ _ (⟨(rd_T43 y16 a2).f0,(rd_T43 y16 a2).f1,(rd_T43 y16 a2).f2,(rd_T43 y16 a2).f3,true⟩ : S43) ) (fun _ hk=>hk);have hx81_4:=hcc81 4 _ rfl;(try simp only [show (k43).sz = 5 from rfl,Nat.mul_one,Nat.add_zero] at hx81_4);have hf81_4:=hfr81 4;(try simp only [show (k43).sz = 5 from rfl,Nat.mul_one,Nat.add_zero] at hf81_4);clear hcl81 hcc81 hfr81 hM81) | ((with_reducible refine gate_store (t:=4) (p:=44) rfl ?_);refine store_event (t:=4) (p:=44) (v:=?vo_w82) (w1:=(w79.setCell ⟨go55,(a2 : Int).toNat * 5 + 4,none⟩ (.bool true))) ?hg ?ho ?hn ?hr ?_;(case ho=>rfl);(case hg=>rfl);(case hn=>rfl);(case hr=>first | (go_simp;done) | (go_simp;rfl));intro w82 hw;have hg : w79.grownBy w82 (some go55):=(by rw [hw];exact HP81.2);have hp_ : Kd.R k43 43 w82 w.heap.size (fun _=>True) (.slice (some ⟨go55,0,none⟩) t12.length co71) y17:=(by rw [hw,Ny17.out];exact HP81.1);clear HP81;have n0_:=a0_ (blk_grown (bb_ BK1.out) hg (Kd.R_ne HO14.out BK1.out (by decide)));have n1_:=a0_ (blk_grown (bb_ BK2.out) hg (Kd.R_ne HO14.out BK2.out (by decide)));have n2_:=a0_ (blk_grown (bb_ BK3.out) hg (Kd.R_ne HO14.out BK3.out (by decide)));have n3_:=a0_ (hp_);have n4_:=a0_ (blk_grown (bb_ BK15.out) hg (Kd.R_ne HO14.out BK15.out (by decide)));have n5_:=a0_ ((by rw [hw];exact below_set (HB.out) GB55.out : Below w.heap.size w w82));clear BK1 BK2;clear BK3 HO14;clear BK15 HB;have BK1:=n0_;have BK2:=n1_;have BK3:=n2_;have HO14:=n3_;have BK15:=n4_;have HB:=n5_;clear n0_ n1_ n2_ n3_ n4_ n5_;clear hg hw hp_;have hcz83_0 : w82.cell? ⟨gb15,0,none⟩ = some (.slice (some ⟨go55,0,none⟩) t12.length co71):=(blk_cell BK15.out 0).trans rfl;have hfz83_0:=blk_frozen BK15.out 0;have hcz84_0 : w82.cell? ⟨gb3,0,none⟩ = some (.slice none 0 0):=(blk_cell BK3.out 0).trans rfl;have hfz84_0:=blk_frozen BK3.out 0))
       refine bodyPost_ret (results_ct rfl _ _ gb3 28 #[.slice (some ⟨go55,0,none⟩) t12.length co71] (0,0) _ rfl (by (with_reducible repeat (first | refine blk_drewN ?_ _ | refine blk_drew ?_ | refine blk_alloc ?_ _));refine blk_put (cs:=#[.slice none 0 0]) ?_ 0 _ rfl;(with_reducible repeat (first | refine blk_drewN ?_ _ | refine blk_drew ?_ | refine blk_alloc ?_ _));exact BK3.out) Try.underlying28 rfl (by kernel_rfl)) rfl ?_
       exact ⟨_,by first | rfl | (simp [errW_none,errW_some] <;> rfl) | (simp [*,errW_none,errW_some] <;> rfl),by (with_reducible repeat (first | apply Kd.R_alloc | apply Kd.R_drewN | apply Kd.R_drew));exact Kd.R_mono (Kd.R_far (p:=⟨gb3,0,none⟩) (Kd.R_types HO14.out BK3.out (by decide)) (fun _ hk=>hk.2) (.slice (some ⟨go55,0,none⟩) t12.length co71)) (fun _ hk=>trivial),hb_⟩
      ·rw [if_neg c54] at H
       exact absurd H (by simp)
     ·rw [if_neg c53] at H
      exact absurd H (by simp)
    ·replace c51:=Bool.eq_false_iff.mpr c51
     subst c51
     have H1 : (some (([] : List (S43)),false)) = some (r1,r2):=by rw [if_neg (show ¬ (false = true) by decide)] at H;exact H
     clear H
     have H:=H1
     clear H1
     simp only [Option.some.injEq,Prod.mk.injEq] at H
     obtain ⟨rfl,rfl⟩:=H
     go_enter Try.func25,Try.ntmps25
     go_wp2_with (first | ((with_reducible refine gate_dst (N:=4) rfl ?_);refine box_event ?hg (N:=4) ?hd (cs:=#[.slice A0_0 l0_0.length c0_0]) (t:=25) ?hr ?_;(case hd=>rfl);(case hg=>rfl);(case hr=>first | (go_simp;done) | (go_simp;rfl));intro gb1 hg w85 hbox hb;have BK1:=a0_ (hbox);have GW1:=a0_ ((by rw [hg];exact (below_size hb_) : w.heap.size ≤ gb1));have GE1:=a0_ ((by rw [hg];exact (below_size hb_) : w.heap.size ≤ gb1));replace HB:=a0_ (below_step hb_ hb);clear hb hbox hg) | ((with_reducible refine gate_dst (N:=5) rfl ?_);refine box_event ?hg (N:=5) ?hd (cs:=#[.slice A1_0 l1_0.length c1_0]) (t:=28) ?hr ?_;(case hd=>rfl);(case hg=>rfl);(case hr=>first | (go_simp;done) | (go_simp;rfl));intro gb2 hg w86 hbox hb;have n0_:=kb_ BK1 hb;have n1_:=a0_ (below_step hb_ hb);have n2_:=a0_ (hbox);have n3_:=a0_ ((by rw [hg];exact (below_size hb_) : w.heap.size ≤ gb2));have n4_:=a0_ ((by rw [hg];exact (below_size hb_) : w.heap.size ≤ gb2));have n5_:=a0_ ((by rw [hg];exact Nat.ne_of_lt (blk_lt (bb_ BK1.out)) : gb1 ≠ gb2));have n6_:=a0_ ((by rw [hg];exact Nat.ne_of_gt (blk_lt (bb_ BK1.out)) : gb2 ≠ gb1));clear BK1 HB;have BK1:=n0_;have HB:=n1_;have BK2:=n2_;have GW2:=n3_;have GE2:=n4_;have NB1_2:=n5_;have NB2_1:=n6_;clear n0_ n1_ n2_ n3_ n4_ n5_ n6_;clear hb hbox hg) | ((with_reducible refine gate_dst (N:=8) rfl ?_);refine box_event ?hg (N:=8) ?hd (cs:=#[.slice none 0 0]) (t:=28) ?hr ?_;(case hd=>rfl);(case hg=>rfl);(case hr=>first | (go_simp;done) | (go_simp;rfl));intro gb3 hg w87 hbox hb;have n0_:=kb_ BK1 hb;have n1_:=kb_ BK2 hb;have n2_:=a0_ (below_step hb_ hb);have n3_:=a0_ (hbox);have n4_:=a0_ ((by rw [hg];exact (below_size hb_) : w.heap.size ≤ gb3));have n5_:=a0_ ((by rw [hg];exact (below_size hb_) : w.heap.size ≤ gb3));have n6_:=a0_ ((by rw [hg];exact Nat.ne_of_lt (blk_lt (bb_ BK1.out)) : gb1 ≠ gb3));have n7_:=a0_ ((by rw [hg];exact Nat.ne_of_gt (blk_lt (bb_ BK1.out)) : gb3 ≠ gb1));have n8_:=a0_ ((by rw [hg];exact Nat.ne_of_lt (blk_lt (bb_ BK2.out)) : gb2 ≠ gb3));have n9_:=a0_ ((by rw [hg];exact Nat.ne_of_gt (blk_lt (bb_ BK2.out)) : gb3 ≠ gb2));clear BK1 BK2 HB;have BK1:=n0_;have BK2:=n1_;have HB:=n2_;have BK3:=n3_;have GW3:=n4_;have GE3:=n5_;have NB1_3:=n6_;have NB3_1:=n7_;have NB2_3:=n8_;have NB3_2:=n9_;clear n0_ n1_ n2_ n3_ n4_ n5_ n6_ n7_ n8_ n9_;clear hb hbox hg;have hnb88:=NB1_2.out;have hnc88:=NB2_1.out;have hnb89:=NB1_3.out;have hnc89:=NB3_1.out;have hcz90_0 : w87.cell? ⟨gb1,0,none⟩ = some (.slice A0_0 l0_0.length c0_0):=(blk_cell BK1.out 0).trans rfl;have hfz90_0:=blk_frozen BK1.out 0;have hnb91:=NB2_3.out;have hnc91:=NB3_2.out;have hcz92_0 : w87.cell? ⟨gb2,0,none⟩ = some (.slice A1_0 l1_0.length c1_0):=(blk_cell BK2.out 0).trans rfl;have hfz92_0:=blk_frozen BK2.out 0) | ((with_reducible refine gate_callee (f:=38) rfl ?_);refine goesL_ (some 14) rfl rfl Try.func38 (by kernel_rfl) rfl #[.agg #[.slice A0_0 l0_0.length c0_0],.agg #[.slice A1_0 l1_0.length c1_0],.int .i64 a2] rfl lm_ ?_;(with_reducible refine (spec_goodFault.calls k _ _ l0_0 _ _ l1_0 a2 true _ ?side1 ?side2 ?side3 ?side4 A5.out).mono ?_);(case side1=>exact cc_ (Kd.C_below HR0_0.out HB.out));(case side2=>exact HC0_0.out);(case side3=>exact cc_ (Kd.C_below HR1_0.out HB.out));(case side4=>exact HC1_0.out);rintro e w93 ⟨rfl,hb⟩;refine ⟨_,rfl,?_⟩;replace BK1:=kb_ BK1 hb;replace BK2:=kb_ BK2 hb;replace BK3:=kb_ BK3 hb;replace HB:=a0_ (below_step hb_ hb);(try clear hb);have hcz94_0 : w93.cell? ⟨gb2,0,none⟩ = some (.slice A1_0 l1_0.length c1_0):=(blk_cell BK2.out 0).trans rfl;have hfz94_0:=blk_frozen BK2.out 0) | (go_at_call 52;(with_reducible refine (spec_hasFault.calls _ _ l1_0 a3 false _ ?side1 ?side2 A50.out).mono ?_);(case side1=>exact cc_ (Kd.C_below HR1_0.out HB.out));(case side2=>exact HC1_0.out);rintro e w95 ⟨rfl,hb⟩;replace BK1:=kb_ BK1 hb;replace BK2:=kb_ BK2 hb;replace BK3:=kb_ BK3 hb;replace HB:=a0_ (below_step hb_ hb);(try clear hb);have hcz96_0 : w95.cell? ⟨gb3,0,none⟩ = some (.slice none 0 0):=(blk_cell BK3.out 0).trans rfl;have hfz96_0:=blk_frozen BK3.out 0))
     refine bodyPost_ret (results_ct rfl _ _ gb3 28 #[.slice none 0 0] (0,0) _ rfl (by (with_reducible repeat (first | refine blk_drewN ?_ _ | refine blk_drew ?_ | refine blk_alloc ?_ _));refine blk_put (cs:=#[.slice none 0 0]) ?_ 0 _ rfl;(with_reducible repeat (first | refine blk_drewN ?_ _ | refine blk_drew ?_ | refine blk_alloc ?_ _));exact BK3.out) Try.underlying28 rfl (by kernel_rfl)) rfl ?_
     exact ⟨_,by first | rfl | (simp [errW_none,errW_some] <;> rfl) | (simp [*,errW_none,errW_some] <;> rfl),by first | exact Kd.R_nil _ _ _ _ _ | exact Kd.N_nil _ _ _ _ _ | exact Kd.V_nil _ _ _ _ _ | exact Kd.Q_nil _ _ _ _ _ | exact Kd.S_nil _ _ _ _ _,hb_⟩
 ·replace c6:=Bool.eq_false_iff.mpr c6
  subst c6
  have H1 : (some (([] : List (S43)),false)) = some (r1,r2):=by rw [if_neg (show ¬ (false = true) by decide)] at H;exact H
  clear H
  have H:=H1
  clear H1
  simp only [Option.some.injEq,Prod.mk.injEq] at H
  obtain ⟨rfl,rfl⟩:=H
  go_enter Try.func25,Try.ntmps25
  go_wp2_with (first | ((with_reducible refine gate_dst (N:=4) rfl ?_);refine box_event ?hg (N:=4) ?hd (cs:=#[.slice A0_0 l0_0.length c0_0]) (t:=25) ?hr ?_;(case hd=>rfl);(case hg=>rfl);(case hr=>first | (go_simp;done) | (go_simp;rfl));intro gb1 hg w97 hbox hb;have BK1:=a0_ (hbox);have GW1:=a0_ ((by rw [hg];exact (below_size hb_) : w.heap.size ≤ gb1));have GE1:=a0_ ((by rw [hg];exact (below_size hb_) : w.heap.size ≤ gb1));replace HB:=a0_ (below_step hb_ hb);clear hb hbox hg) | ((with_reducible refine gate_dst (N:=5) rfl ?_);refine box_event ?hg (N:=5) ?hd (cs:=#[.slice A1_0 l1_0.length c1_0]) (t:=28) ?hr ?_;(case hd=>rfl);(case hg=>rfl);(case hr=>first | (go_simp;done) | (go_simp;rfl));intro gb2 hg w98 hbox hb;have n0_:=kb_ BK1 hb;have n1_:=a0_ (below_step hb_ hb);have n2_:=a0_ (hbox);have n3_:=a0_ ((by rw [hg];exact (below_size hb_) : w.heap.size ≤ gb2));have n4_:=a0_ ((by rw [hg];exact (below_size hb_) : w.heap.size ≤ gb2));have n5_:=a0_ ((by rw [hg];exact Nat.ne_of_lt (blk_lt (bb_ BK1.out)) : gb1 ≠ gb2));have n6_:=a0_ ((by rw [hg];exact Nat.ne_of_gt (blk_lt (bb_ BK1.out)) : gb2 ≠ gb1));clear BK1 HB;have BK1:=n0_;have HB:=n1_;have BK2:=n2_;have GW2:=n3_;have GE2:=n4_;have NB1_2:=n5_;have NB2_1:=n6_;clear n0_ n1_ n2_ n3_ n4_ n5_ n6_;clear hb hbox hg) | ((with_reducible refine gate_dst (N:=8) rfl ?_);refine box_event ?hg (N:=8) ?hd (cs:=#[.slice none 0 0]) (t:=28) ?hr ?_;(case hd=>rfl);(case hg=>rfl);(case hr=>first | (go_simp;done) | (go_simp;rfl));intro gb3 hg w99 hbox hb;have n0_:=kb_ BK1 hb;have n1_:=kb_ BK2 hb;have n2_:=a0_ (below_step hb_ hb);have n3_:=a0_ (hbox);have n4_:=a0_ ((by rw [hg];exact (below_size hb_) : w.heap.size ≤ gb3));have n5_:=a0_ ((by rw [hg];exact (below_size hb_) : w.heap.size ≤ gb3));have n6_:=a0_ ((by rw [hg];exact Nat.ne_of_lt (blk_lt (bb_ BK1.out)) : gb1 ≠ gb3));have n7_:=a0_ ((by rw [hg];exact Nat.ne_of_gt (blk_lt (bb_ BK1.out)) : gb3 ≠ gb1));have n8_:=a0_ ((by rw [hg];exact Nat.ne_of_lt (blk_lt (bb_ BK2.out)) : gb2 ≠ gb3));have n9_:=a0_ ((by rw [hg];exact Nat.ne_of_gt (blk_lt (bb_ BK2.out)) : gb3 ≠ gb2));clear BK1 BK2 HB;have BK1:=n0_;have BK2:=n1_;have HB:=n2_;have BK3:=n3_;have GW3:=n4_;have GE3:=n5_;have NB1_3:=n6_;have NB3_1:=n7_;have NB2_3:=n8_;have NB3_2:=n9_;clear n0_ n1_ n2_ n3_ n4_ n5_ n6_ n7_ n8_ n9_;clear hb hbox hg;have hnb100:=NB1_2.out;have hnc100:=NB2_1.out;have hnb101:=NB1_3.out;have hnc101:=NB3_1.out;have hcz102_0 : w99.cell? ⟨gb1,0,none⟩ = some (.slice A0_0 l0_0.length c0_0):=(blk_cell BK1.out 0).trans rfl;have hfz102_0:=blk_frozen BK1.out 0;have hnb103:=NB2_3.out;have hnc103:=NB3_2.out;have hcz104_0 : w99.cell? ⟨gb2,0,none⟩ = some (.slice A1_0 l1_0.length c1_0):=(blk_cell BK2.out 0).trans rfl;have hfz104_0:=blk_frozen BK2.out 0) | ((with_reducible refine gate_callee (f:=38) rfl ?_);refine goesL_ (some 14) rfl rfl Try.func38 (by kernel_rfl) rfl #[.agg #[.slice A0_0 l0_0.length c0_0],.agg #[.slice A1_0 l1_0.length c1_0],.int .i64 a2] rfl lm_ ?_;(with_reducible refine (spec_goodFault.calls k _ _ l0_0 _ _ l1_0 a2 false _ ?side1 ?side2 ?side3 ?side4 A5.out).mono ?_);(case side1=>exact cc_ (Kd.C_below HR0_0.out HB.out));(case side2=>exact HC0_0.out);(case side3=>exact cc_ (Kd.C_below HR1_0.out HB.out));(case side4=>exact HC1_0.out);rintro e w105 ⟨rfl,hb⟩;refine ⟨_,rfl,?_⟩;replace BK1:=kb_ BK1 hb;replace BK2:=kb_ BK2 hb;replace BK3:=kb_ BK3 hb;replace HB:=a0_ (below_step hb_ hb);(try clear hb);have hcz106_0 : w105.cell? ⟨gb3,0,none⟩ = some (.slice none 0 0):=(blk_cell BK3.out 0).trans rfl;have hfz106_0:=blk_frozen BK3.out 0))
  refine bodyPost_ret (results_ct rfl _ _ gb3 28 #[.slice none 0 0] (0,0) _ rfl (by (with_reducible repeat (first | refine blk_drewN ?_ _ | refine blk_drew ?_ | refine blk_alloc ?_ _));refine blk_put (cs:=#[.slice none 0 0]) ?_ 0 _ rfl;(with_reducible repeat (first | refine blk_drewN ?_ _ | refine blk_drew ?_ | refine blk_alloc ?_ _));exact BK3.out) Try.underlying28 rfl (by kernel_rfl)) rfl ?_
  exact ⟨_,by first | rfl | (simp [errW_none,errW_some] <;> rfl) | (simp [*,errW_none,errW_some] <;> rfl),by first | exact Kd.R_nil _ _ _ _ _ | exact Kd.N_nil _ _ _ _ _ | exact Kd.V_nil _ _ _ _ _ | exact Kd.Q_nil _ _ _ _ _ | exact Kd.S_nil _ _ _ _ _,hb_⟩
theorem spec_SetCause_ev (t : List Cls) (h : List Fau) (f c : Int) (hs : smT t = true) (ht : t.length ≤ 9223372036854775807) (hl : h.length ≤ 2097152) : Ev (fun k=>spec_SetCause.f k t h f c) (cauP t h f c):=by
 refine Ev.bind (spec_goodFault_ev t h f hs ht hl) ?_
 cases hq : (vH t h && hasF h f) with
 | false =>
  rw [show cauP t h f c = ([],false) by unfold cauP;rw [hq];rfl]
  exact Ev.neg (by simp) (Ev.const rfl)
 | true =>
  obtain ⟨_,h0,h1⟩:=good_parts hq
  have hrd : rd_T43 h f = fauAt h f:=by simp [rd_T43,fauAt]
  have hlt : f.toNat < h.length:=by omega
  have hset : ∀ x : Fau,rd_T43 (h.set f.toNat x) f = x:=fun x=>by simp [rd_T43,hlt]
  refine Ev.pos rfl ?_
  by_cases hcf : c = f
  ·rw [show cauP t h f c = ([],false) by
    unfold cauP
    rw [hq,show (c == -1) = false from beq_eq_false_iff_ne.2 (by omega),show (c == f) = true from beq_iff_eq.2 hcf]
    simp]
   exact Ev.pos hcf (Ev.const rfl)
  ·have e1 : (c == f) = false:=beq_eq_false_iff_ne.2 hcf
   refine Ev.neg hcf ?_
   have hy : ((c == -1) || (hasF h c && !(c == f))) = true → cauP t h f c = (h.set f.toNat ⟨(fauAt h f).f0,(fauAt h f).f1,c,(fauAt h f).f3,true⟩,true):=fun hh=>by unfold cauP;rw [hq,hh];rfl
   by_cases hc1 : c = -1
   ·rw [hy (by rw [beq_iff_eq.2 hc1];rfl)]
    refine Ev.pos hc1 (Ev.bind (Ev.const (spec_copyHeap_ev h hl)) (Ev.pos h0 (Ev.pos h1 (Ev.bind (Ev.const rfl) (Ev.const ?_)))))
    simp only [hrd,hset,List.set_set]
   ·refine Ev.neg hc1 (Ev.bind (Ev.const (spec_hasFault_ev h c hl)) ?_)
    cases hc : hasF h c with
    | false =>
     rw [show cauP t h f c = ([],false) by
      unfold cauP
      rw [hq,hc,show (c == -1) = false from beq_eq_false_iff_ne.2 hc1]
      rfl]
     exact Ev.neg (by simp) (Ev.const rfl)
    | true =>
     rw [hy (by rw [hc,e1];simp)]
     refine Ev.pos rfl (Ev.bind (Ev.const (spec_copyHeap_ev h hl)) (Ev.pos h0 (Ev.pos h1 (Ev.bind (Ev.const rfl) (Ev.const ?_)))))
     simp only [hrd,hset,List.set_set]
end Go.Proofs.Ytmiholmfbjalfaa.P
namespace Go.Proofs.Ytmiholmfbjalfaa.P
open Go.RowKit Go.Proofs.YtmiholmfbjalfaaW.PrintWords Go.Proofs.YtmiholmfbjalfaaW.PrintLast Go.Proofs.YtmiholmfbjalfaaW.PrintMore
attribute [local go_sem] max2_int min2_int max_two min_two max_three min_three max_four min_four
set_option linter.unusedVariables false
set_option linter.unusedSimpArgs false
def impl_ContextChain.f (l0_0 : List (S87)) (l1_0 : List (S43)) (a2 : Int) : Option (List Int):=(impl_faultsIn.f l0_0 l1_0 (([a2] : List Int))).bind fun t6=>(if t6 = true then ((impl_Heap_contexts.f l1_0 a2).bind fun t7=>(some t7)) else (some ([] : List Int)))
set_option maxHeartbeats 8000000 in
set_option maxRecDepth 100000 in
theorem impl_ContextChain.calls (A0_0 : Option Addr) (c0_0 : Nat) (l0_0 : List (S87)) (A1_0 : Option Addr) (c1_0 : Nat) (l1_0 : List (S43)) (a2 : Int) (r : List Int) (w : World) (hr0_0 : Kd.C k87 w A0_0 l0_0.length l0_0) (hc0_0 : l0_0.length ≤ c0_0) (hr1_0 : Kd.C k43 w A1_0 l1_0.length l1_0) (hc1_0 : l1_0.length ≤ c1_0) (h : impl_ContextChain.f l0_0 l1_0 a2 = some r) :
  Calls Try.prog 26 #[.agg #[.slice A0_0 l0_0.length c0_0],.agg #[.slice A1_0 l1_0.length c1_0],.int .i64 a2] w fun e w'=>∃ v0_ : Value,e = .returned (v0_) ∧ Kd.R (Kd.int .i64) 3 w' w.heap.size (fun _=>True) v0_ r ∧ Below w.heap.size w w':=by
 have hu25:=Try.underlying25
 have hu28:=Try.underlying28
 have HR0_0:=a0_ hr0_0
 have HC0_0:=a0_ hc0_0
 clear hr0_0 hc0_0
 have HR1_0:=a0_ hr1_0
 have HC1_0:=a0_ hc1_0
 clear hr1_0 hc1_0
 have HB:=a0_ (Below.refl w.heap.size w)
 have H : ((impl_faultsIn.f l0_0 l1_0 (([a2] : List Int))).bind fun t6=>(if t6 = true then ((impl_Heap_contexts.f l1_0 a2).bind fun t7=>(some t7)) else (some ([] : List Int)))) = some r:=h
 clear h
 obtain ⟨y3,hy3⟩ : ∃ y_ : List Int,y_ = (([a2] : List Int)):=⟨_,rfl⟩
 replace H : ((impl_faultsIn.f l0_0 l1_0 y3).bind fun t6=>(if t6 = true then ((impl_Heap_contexts.f l1_0 a2).bind fun t7=>(some t7)) else (some ([] : List Int)))) = some r:=by first | (rw [hy3];with_reducible exact H) | (have H2_:=(Option.bind_some _ _).symm.trans H;rw [hy3];with_reducible exact H2_) | (have H2_:=(Option.bind_some _ _).symm.trans H;with_reducible exact H2_) | with_reducible exact H | (rw [hy3];exact H) | exact H
 have Ny3:=a0_ hy3
 clear hy3
 replace H:=Option.bind_eq_some_iff.mp H
 obtain ⟨t6,A40,H⟩:=H
 try dsimp only at H
 have A4:=a0_ A40
 clear A40
 by_cases c5 : t6 = true
 ·subst c5
  have H1 : ((impl_Heap_contexts.f l1_0 a2).bind fun t7=>(some t7)) = some r:=by rw [if_pos rfl] at H;exact H
  clear H
  have H:=H1
  clear H1
  replace H:=Option.bind_eq_some_iff.mp H
  obtain ⟨t7,A60,H⟩:=H
  replace H : (some t7) = some r:=H
  have A6:=a0_ A60
  clear A60
  obtain rfl:=Option.some.inj H
  go_enter Try.func26,Try.ntmps26
  go_wp2_with (first | ((with_reducible refine gate_dst (N:=3) rfl ?_);refine box_event ?hg (N:=3) ?hd (cs:=#[.slice A0_0 l0_0.length c0_0]) (t:=25) ?hr ?_;(case hd=>rfl);(case hg=>rfl);(case hr=>first | (go_simp;done) | (go_simp;rfl));intro gb1 hg w7 hbox hb;have BK1:=a0_ (hbox);have GW1:=a0_ ((by rw [hg];exact (below_size hb_) : w.heap.size ≤ gb1));have GE1:=a0_ ((by rw [hg];exact (below_size hb_) : w.heap.size ≤ gb1));replace HB:=a0_ (below_step hb_ hb);clear hb hbox hg) | ((with_reducible refine gate_dst (N:=4) rfl ?_);refine box_event ?hg (N:=4) ?hd (cs:=#[.slice A1_0 l1_0.length c1_0]) (t:=28) ?hr ?_;(case hd=>rfl);(case hg=>rfl);(case hr=>first | (go_simp;done) | (go_simp;rfl));intro gb2 hg w8 hbox hb;have n0_:=kb_ BK1 hb;have n1_:=a0_ (below_step hb_ hb);have n2_:=a0_ (hbox);have n3_:=a0_ ((by rw [hg];exact (below_size hb_) : w.heap.size ≤ gb2));have n4_:=a0_ ((by rw [hg];exact (below_size hb_) : w.heap.size ≤ gb2));have n5_:=a0_ ((by rw [hg];exact Nat.ne_of_lt (blk_lt (bb_ BK1.out)) : gb1 ≠ gb2));have n6_:=a0_ ((by rw [hg];exact Nat.ne_of_gt (blk_lt (bb_ BK1.out)) : gb2 ≠ gb1));clear BK1 HB;have BK1:=n0_;have HB:=n1_;have BK2:=n2_;have GW2:=n3_;have GE2:=n4_;have NB1_2:=n5_;have NB2_1:=n6_;clear n0_ n1_ n2_ n3_ n4_ n5_ n6_;clear hb hbox hg;have hnb9:=NB1_2.out;have hnc9:=NB2_1.out;have hcz10_0 : w8.cell? ⟨gb1,0,none⟩ = some (.slice A0_0 l0_0.length c0_0):=(blk_cell BK1.out 0).trans rfl;have hfz10_0:=blk_frozen BK1.out 0;have hcz11_0 : w8.cell? ⟨gb2,0,none⟩ = some (.slice A1_0 l1_0.length c1_0):=(blk_cell BK2.out 0).trans rfl;have hfz11_0:=blk_frozen BK2.out 0) | ((with_reducible refine gate_dst (N:=10) rfl ?_);refine Kd.R_lit (Kd.int .i64) _ 3 ?hg (N:=10) ?hd (xs:=([a2] : List Int)) (inner:=[.int .i64 a2]) (ok:=fun _=>True) (okp:=fun _=>True) ?hr ?hp (fun _ hk=>hk) trivial (Below.refl _ _) (Nat.le_refl _) (by simp) ?_;(case hd=>rfl);(case hg=>rfl);(case hr=>first | (go_simp;done) | (go_simp;rfl));(case hp=>exact (Reps.one (show Kd.M (Kd.int .i64) _ _ _ a2 [.int .i64 a2] from rfl) (Reps.none _ _)));intro v4 w12 ho13 hb hg_ hnew_;clear hg_ hnew_;(first | rw [← Ny3.out] at ho13 | (simp only [Int.reduceToNat] at ho13;rw [← Ny3.out] at ho13));have HO5:=a0_ (Kd.R_lower ho13 (below_size hb_));replace BK1:=kb_ BK1 hb;replace BK2:=kb_ BK2 hb;replace HB:=a0_ (below_step hb_ hb);clear hb ho13;obtain ⟨Ao14,co14,eo14⟩:=Kd.R_slice HO5.out;subst eo14) | ((with_reducible refine gate_callee (f:=35) rfl ?_);refine goesL_ (some 11) rfl rfl Try.func35 (by kernel_rfl) rfl #[.agg #[.slice A0_0 l0_0.length c0_0],.agg #[.slice A1_0 l1_0.length c1_0],.slice Ao14 y3.length co14] rfl lm_ ?_;(with_reducible refine (impl_faultsIn.calls _ _ l0_0 _ _ l1_0 _ _ y3 true _ ?side1 ?side2 ?side3 ?side4 ?side5 ?side6 A4.out).mono ?_);(case side1=>exact cc_ (Kd.C_below HR0_0.out HB.out));(case side2=>exact HC0_0.out);(case side3=>exact cc_ (Kd.C_below HR1_0.out HB.out));(case side4=>exact HC1_0.out);(case side5=>exact cc_ (Kd.R_reads' HO5.out).2.2);(case side6=>exact (Kd.R_reads' HO5.out).2.1);rintro e w15 ⟨rfl,hb⟩;refine ⟨_,rfl,?_⟩;replace HO5:=rb_ HO5 hb;replace BK1:=kb_ BK1 hb;replace BK2:=kb_ BK2 hb;replace HB:=a0_ (below_step hb_ hb);(try clear hb);have hcz16_0 : w15.cell? ⟨gb2,0,none⟩ = some (.slice A1_0 l1_0.length c1_0):=(blk_cell BK2.out 0).trans rfl;have hfz16_0:=blk_frozen BK2.out 0) | ((with_reducible refine gate_callee (f:=53) rfl ?_);refine goesL_ (some 15) rfl rfl Try.func53 (by kernel_rfl) rfl #[.agg #[.slice A1_0 l1_0.length c1_0],.int .i64 a2] rfl lm_ ?_;(with_reducible refine (impl_Heap_contexts.calls _ _ l1_0 a2 t7 _ ?side1 ?side2 A6.out).mono ?_);(case side1=>exact cc_ (Kd.C_below HR1_0.out HB.out));(case side2=>exact HC1_0.out);rintro e w17 ⟨v8,rfl,ho0,hb⟩;refine ⟨_,rfl,?_⟩;have n0_:=a0_ (Kd.R_elder' (rr_ HO5.out) (Kd.R_base ho0) hb);have n1_:=a0_ (Kd.R_lower (Kd.R_new' ho0 (Kd.R_lt (rr_ HO5.out))) (below_size hb_));have n2_:=kb_ BK1 hb;have n3_:=kb_ BK2 hb;have n4_:=a0_ (below_step hb_ hb);clear HO5 BK1;clear BK2 HB;have HO5:=n0_;have HO9:=n1_;have BK1:=n2_;have BK2:=n3_;have HB:=n4_;clear n0_ n1_ n2_ n3_ n4_;(try clear hb);(try clear ho0)))
  go_ret
  exact ⟨_,by first | rfl | (simp [errW_none,errW_some] <;> rfl) | (simp [*,errW_none,errW_some] <;> rfl),by (with_reducible repeat (first | apply Kd.R_alloc | apply Kd.R_drewN | apply Kd.R_drew));exact Kd.R_mono HO9.out (fun _ hk=>trivial),hb_⟩
 ·replace c5:=Bool.eq_false_iff.mpr c5
  subst c5
  have H1 : (some ([] : List Int)) = some r:=by rw [if_neg (show ¬ (false = true) by decide)] at H;exact H
  clear H
  have H:=H1
  clear H1
  obtain rfl:=Option.some.inj H
  go_enter Try.func26,Try.ntmps26
  go_wp2_with (first | ((with_reducible refine gate_dst (N:=3) rfl ?_);refine box_event ?hg (N:=3) ?hd (cs:=#[.slice A0_0 l0_0.length c0_0]) (t:=25) ?hr ?_;(case hd=>rfl);(case hg=>rfl);(case hr=>first | (go_simp;done) | (go_simp;rfl));intro gb1 hg w18 hbox hb;have BK1:=a0_ (hbox);have GW1:=a0_ ((by rw [hg];exact (below_size hb_) : w.heap.size ≤ gb1));have GE1:=a0_ ((by rw [hg];exact (below_size hb_) : w.heap.size ≤ gb1));replace HB:=a0_ (below_step hb_ hb);clear hb hbox hg) | ((with_reducible refine gate_dst (N:=4) rfl ?_);refine box_event ?hg (N:=4) ?hd (cs:=#[.slice A1_0 l1_0.length c1_0]) (t:=28) ?hr ?_;(case hd=>rfl);(case hg=>rfl);(case hr=>first | (go_simp;done) | (go_simp;rfl));intro gb2 hg w19 hbox hb;have n0_:=kb_ BK1 hb;have n1_:=a0_ (below_step hb_ hb);have n2_:=a0_ (hbox);have n3_:=a0_ ((by rw [hg];exact (below_size hb_) : w.heap.size ≤ gb2));have n4_:=a0_ ((by rw [hg];exact (below_size hb_) : w.heap.size ≤ gb2));have n5_:=a0_ ((by rw [hg];exact Nat.ne_of_lt (blk_lt (bb_ BK1.out)) : gb1 ≠ gb2));have n6_:=a0_ ((by rw [hg];exact Nat.ne_of_gt (blk_lt (bb_ BK1.out)) : gb2 ≠ gb1));clear BK1 HB;have BK1:=n0_;have HB:=n1_;have BK2:=n2_;have GW2:=n3_;have GE2:=n4_;have NB1_2:=n5_;have NB2_1:=n6_;clear n0_ n1_ n2_ n3_ n4_ n5_ n6_;clear hb hbox hg;have hnb20:=NB1_2.out;have hnc20:=NB2_1.out;have hcz21_0 : w19.cell? ⟨gb1,0,none⟩ = some (.slice A0_0 l0_0.length c0_0):=(blk_cell BK1.out 0).trans rfl;have hfz21_0:=blk_frozen BK1.out 0;have hcz22_0 : w19.cell? ⟨gb2,0,none⟩ = some (.slice A1_0 l1_0.length c1_0):=(blk_cell BK2.out 0).trans rfl;have hfz22_0:=blk_frozen BK2.out 0) | ((with_reducible refine gate_dst (N:=10) rfl ?_);refine Kd.R_lit (Kd.int .i64) _ 3 ?hg (N:=10) ?hd (xs:=([a2] : List Int)) (inner:=[.int .i64 a2]) (ok:=fun _=>True) (okp:=fun _=>True) ?hr ?hp (fun _ hk=>hk) trivial (Below.refl _ _) (Nat.le_refl _) (by simp) ?_;(case hd=>rfl);(case hg=>rfl);(case hr=>first | (go_simp;done) | (go_simp;rfl));(case hp=>exact (Reps.one (show Kd.M (Kd.int .i64) _ _ _ a2 [.int .i64 a2] from rfl) (Reps.none _ _)));intro v4 w23 ho24 hb hg_ hnew_;clear hg_ hnew_;(first | rw [← Ny3.out] at ho24 | (simp only [Int.reduceToNat] at ho24;rw [← Ny3.out] at ho24));have HO5:=a0_ (Kd.R_lower ho24 (below_size hb_));replace BK1:=kb_ BK1 hb;replace BK2:=kb_ BK2 hb;replace HB:=a0_ (below_step hb_ hb);clear hb ho24;obtain ⟨Ao25,co25,eo25⟩:=Kd.R_slice HO5.out;subst eo25) | ((with_reducible refine gate_callee (f:=35) rfl ?_);refine goesL_ (some 11) rfl rfl Try.func35 (by kernel_rfl) rfl #[.agg #[.slice A0_0 l0_0.length c0_0],.agg #[.slice A1_0 l1_0.length c1_0],.slice Ao25 y3.length co25] rfl lm_ ?_;(with_reducible refine (impl_faultsIn.calls _ _ l0_0 _ _ l1_0 _ _ y3 false _ ?side1 ?side2 ?side3 ?side4 ?side5 ?side6 A4.out).mono ?_);(case side1=>exact cc_ (Kd.C_below HR0_0.out HB.out));(case side2=>exact HC0_0.out);(case side3=>exact cc_ (Kd.C_below HR1_0.out HB.out));(case side4=>exact HC1_0.out);(case side5=>exact cc_ (Kd.R_reads' HO5.out).2.2);(case side6=>exact (Kd.R_reads' HO5.out).2.1);rintro e w26 ⟨rfl,hb⟩;refine ⟨_,rfl,?_⟩;replace HO5:=rb_ HO5 hb;replace BK1:=kb_ BK1 hb;replace BK2:=kb_ BK2 hb;replace HB:=a0_ (below_step hb_ hb);(try clear hb);(try clear hb2);(try clear hk);(try clear hi)))
  go_ret
  exact ⟨_,by first | rfl | (simp [errW_none,errW_some] <;> rfl) | (simp [*,errW_none,errW_some] <;> rfl),by first | exact Kd.R_nil _ _ _ _ _ | exact Kd.N_nil _ _ _ _ _ | exact Kd.V_nil _ _ _ _ _ | exact Kd.Q_nil _ _ _ _ _ | exact Kd.S_nil _ _ _ _ _,hb_⟩
theorem impl_ContextChain_ev (t : List Cls) (h : List Fau) (f : Int) (hs : smT t = true) (hl : h.length ≤ 2097152) : impl_ContextChain.f t h f = some (ctxP t h f):=by
 unfold impl_ContextChain.f
 rw [impl_faultsIn_ev t h f hs hl,Option.bind_some]
 unfold ctxP
 cases hq : (vH t h && hasF h f) with
 | false=>rfl
 | true =>
  obtain ⟨hfs,h0,h1⟩:=good_parts hq
  rw [if_pos rfl,impl_Heap_contexts.f,if_pos ⟨ctxOkB_of (fun x h0 h1=>(fsH_ctx hfs x h0 h1).2),h1,hl⟩]
  rfl
end Go.Proofs.Ytmiholmfbjalfaa.P
namespace Go.Proofs.Ytmiholmfbjalfaa.P
open Go.RowKit Go.Proofs.YtmiholmfbjalfaaW.PrintWords Go.Proofs.YtmiholmfbjalfaaW.PrintLast Go.Proofs.YtmiholmfbjalfaaW.PrintMore
attribute [local go_sem] max2_int min2_int max_two min_two max_three min_three max_four min_four
set_option linter.unusedVariables false
set_option linter.unusedSimpArgs false
def laws_FnSetCause.j0 : Nat → Int → Int → Bool → Bool → Bool → List (S87) → List (S43) → List (S43) → List (S43) → Option (Bool)
 | 0,_,_,_,_,_,_,_,_,_=>none
 | k + 1,x5,x6,x8,x10,x51,x10000,x11000,x16000,x21000=>if x51 = true then ((laws_equalHeap.f k x16000 x21000).bind fun t22=>(if t22 = true then (some (x8 == x10)) else (some false))) else ((impl_SetCause.f x10000 x16000 x5 x6).bind fun bt23=>((impl_ShownNext.f x10000 x16000 x5).bind fun t28=>(if t28 = x6 then (if bt23.2 = true then ((laws_equalHeap.f k bt23.1 x16000).bind fun t29=>(if t29 = true then ((impl_ContextChain.f x10000 x16000 x5).bind fun t30=>((impl_ContextChain.f x10000 x11000 x5).bind fun t33=>((laws_equalInts.f k t30 t33).bind fun t36=>(some t36)))) else (some false))) else (some false)) else (some false))))
def laws_FnSetCause.f (k : Nat) (l0 : List Int) : Option (Bool):=if (l0.length : Int) > 1048576 then (some true) else ((spec_DrawSetCause.f k l0).bind fun bt1=>((impl_SetCause.f bt1.1 bt1.2.1 bt1.2.2.1 bt1.2.2.2).bind fun bt11=>((spec_SetCause.f k bt1.1 bt1.2.1 bt1.2.2.1 bt1.2.2.2).bind fun bt16=>((laws_equalHeap.f k bt11.1 bt16.1).bind fun t21=>(if t21 = true then (if (bt11.2 != bt16.2) = true then (laws_FnSetCause.j0 k bt1.2.2.1 bt1.2.2.2 bt11.2 bt16.2 true bt1.1 bt1.2.1 bt11.1 bt16.1) else (laws_FnSetCause.j0 k bt1.2.2.1 bt1.2.2.2 bt11.2 bt16.2 (!bt11.2) bt1.1 bt1.2.1 bt11.1 bt16.1)) else (laws_FnSetCause.j0 k bt1.2.2.1 bt1.2.2.2 bt11.2 bt16.2 true bt1.1 bt1.2.1 bt11.1 bt16.1))))))
theorem laws_FnSetCause.mono_l : ∀ k,(∀ y0 y1 y2 y3 y4 y5 y6 y7 y8,LeO (laws_FnSetCause.j0 k y0 y1 y2 y3 y4 y5 y6 y7 y8) (laws_FnSetCause.j0 (k + 1) y0 y1 y2 y3 y4 y5 y6 y7 y8))
 | 0=>fun _ _ _ _ _ _ _ _ _ r h=>by simp [laws_FnSetCause.j0] at h
 | k + 1=>by
  have ih0:=laws_FnSetCause.mono_l k
  ·intro y0 y1 y2 y3 y4 y5 y6 y7 y8
   unfold laws_FnSetCause.j0
   repeat' first
   | (with_reducible exact ih0 _ _ _ _ _ _ _ _ _)
   | (with_reducible exact laws_equalHeap.mono _ _ _)
   | (with_reducible exact laws_equalInts.mono _ _ _)
   | (with_reducible exact spec_DrawSetCause.mono _ _)
   | (with_reducible exact spec_SetCause.mono _ _ _ _ _)
   | (with_reducible exact LeO.refl _)
   | (with_reducible exact LeO.none _)
   | (with_reducible refine LeO.ite ?_ ?_)
   | (with_reducible refine LeO.bind ?_ (fun _=>?_))
   | exact ih0 _ _ _ _ _ _ _ _ _
   | exact laws_equalHeap.mono _ _ _
   | exact laws_equalInts.mono _ _ _
   | exact spec_DrawSetCause.mono _ _
   | exact spec_SetCause.mono _ _ _ _ _
   | exact LeO.none _
   | refine LeO.ite ?_ ?_
   | refine LeO.bind ?_ (fun _=>?_)
theorem laws_FnSetCause.mono : ∀ a0 k,LeO (laws_FnSetCause.f k a0) (laws_FnSetCause.f (k + 1) a0):=by
 intro a0 k
 have ih0:=laws_FnSetCause.mono_l k
 unfold laws_FnSetCause.f
 repeat' first
   | (with_reducible exact ih0 _ _ _ _ _ _ _ _ _)
   | (with_reducible exact laws_equalHeap.mono _ _ _)
   | (with_reducible exact laws_equalInts.mono _ _ _)
   | (with_reducible exact spec_DrawSetCause.mono _ _)
   | (with_reducible exact spec_SetCause.mono _ _ _ _ _)
   | (with_reducible exact LeO.refl _)
   | (with_reducible exact LeO.none _)
   | (with_reducible refine LeO.ite ?_ ?_)
   | (with_reducible refine LeO.bind ?_ (fun _=>?_))
   | exact ih0 _ _ _ _ _ _ _ _ _
   | exact laws_equalHeap.mono _ _ _
   | exact laws_equalInts.mono _ _ _
   | exact spec_DrawSetCause.mono _ _
   | exact spec_SetCause.mono _ _ _ _ _
   | exact LeO.none _
   | refine LeO.ite ?_ ?_
   | refine LeO.bind ?_ (fun _=>?_)
def laws_FnSetCause.T9 : Bool × List (List Nat × List Nat):=(true,[([],[]),([],[]),([],[]),([0,1,2],[0,1,2]),([],[]),([3,4],[3,4]),([5,3],[5]),([6],[6]),([6,7],[6,7]),([8,6],[8]),([9],[9]),([9],[9]),([10,11,9,9],[9,10,11]),([9,12],[9,12]),([13,12],[13]),([14],[14]),([14],[14]),([14],[14]),([15,16,17,14,14],[14,15,16,17]),([14],[14]),([14],[14]),([14],[14]),([19,20,21,18,14],[14,19,20,21]),([18,22,22,14],[14,18,22]),([14,23],[14,23]),([24,23,0,1,2,3,4,5,6,7,8,9,10,11,12,13,14,15,16,17,18,19,20,21,22,23,24],[24])])
def laws_FnSetCause.B9 : List Nat:=[0,0,0,7,0,31,63,127,255,511,1023,1023,4095,8191,16383,32767,32767,32767,262143,32767,32767,32767,4194303,8388607,16777215,33554431]
theorem laws_FnSetCause.tab9 : rtab .any (opsOf Try.f6 9) = laws_FnSetCause.T9:=by kernel_rfl
theorem laws_FnSetCause.bits9 : waitsOk laws_FnSetCause.T9.2 laws_FnSetCause.B9 = true:=by kernel_rfl
set_option maxHeartbeats 8000000 in
set_option maxRecDepth 100000 in
theorem laws_FnSetCause.calls (k : Nat) (A0 : Option Addr) (c0 : Nat) (l0 : List Int) (r : Bool) (w : World) (hr0 : Kd.C (Kd.int .u8) w A0 l0.length l0) (hc0 : l0.length ≤ c0) (h : laws_FnSetCause.f k l0 = some r) :
  Calls Try.prog 6 #[.slice A0 l0.length c0] w fun e w'=>e = .returned (.bool r) ∧ Below w.heap.size w w':=by
 have hu25:=Try.underlying25
 have hu28:=Try.underlying28
 have HR0:=a0_ hr0
 have HC0:=a0_ hc0
 clear hr0 hc0
 have HB:=a0_ (Below.refl w.heap.size w)
 have H : (if (l0.length : Int) > 1048576 then (some true) else ((spec_DrawSetCause.f k l0).bind fun bt1=>((impl_SetCause.f bt1.1 bt1.2.1 bt1.2.2.1 bt1.2.2.2).bind fun bt11=>((spec_SetCause.f k bt1.1 bt1.2.1 bt1.2.2.1 bt1.2.2.2).bind fun bt16=>((laws_equalHeap.f k bt11.1 bt16.1).bind fun t21=>(if t21 = true then (if (bt11.2 != bt16.2) = true then (laws_FnSetCause.j0 k bt1.2.2.1 bt1.2.2.2 bt11.2 bt16.2 true bt1.1 bt1.2.1 bt11.1 bt16.1) else (laws_FnSetCause.j0 k bt1.2.2.1 bt1.2.2.2 bt11.2 bt16.2 (!bt11.2) bt1.1 bt1.2.1 bt11.1 bt16.1)) else (laws_FnSetCause.j0 k bt1.2.2.1 bt1.2.2.2 bt11.2 bt16.2 true bt1.1 bt1.2.1 bt11.1 bt16.1))))))) = some r:=h
 clear h
 by_cases c2 : (l0.length : Int) > 1048576
 ·rw [if_pos c2] at H
  have c2b0 : decide (1048576 < (l0.length : Int)) = true:=decide_eq_true c2
  have c2b1 : decide (1048576 < l0.length) = true:=decide_eq_true (by omega)
  clear c2
  obtain rfl:=Option.some.inj H
  go_enter Try.func6,Try.ntmps6
  go_wp2
  go_ret
  exact ⟨by first | rfl | (simp [errW_none,errW_some] <;> rfl) | (simp [*,errW_none,errW_some] <;> rfl),hb_⟩
 ·rw [if_neg c2] at H
  have c2b0 : decide (1048576 < (l0.length : Int)) = false:=decide_eq_false c2
  have c2b1 : decide (1048576 < l0.length) = false:=decide_eq_false (by omega)
  clear c2
  replace H:=Option.bind_eq_some_iff.mp H
  obtain ⟨⟨t1,t4,t7,t8⟩,A30,H⟩:=H
  try dsimp only at H
  have A3:=a0_ A30
  clear A30
  replace H:=Option.bind_eq_some_iff.mp H
  obtain ⟨⟨t11,t14⟩,A40,H⟩:=H
  try dsimp only at H
  have A4:=a0_ A40
  clear A40
  replace H:=Option.bind_eq_some_iff.mp H
  obtain ⟨⟨t16,t19⟩,A50,H⟩:=H
  try dsimp only at H
  have A5:=a0_ A50
  clear A50
  have HC6:=a0_ H
  clear H
  go_enter Try.func6,Try.ntmps6
  go_upto_region 6 with (first | ((with_reducible refine gate_callee (f:=23) rfl ?_);refine goesL_ (some 18) rfl rfl Try.func23 (by kernel_rfl) rfl #[.slice A0 l0.length c0] rfl lm_ ?_;(with_reducible refine (spec_DrawSetCause.calls k _ _ l0 t1 t4 t7 t8 _ ?side1 ?side2 A3.out).mono ?_);(case side1=>repeat (first | exact HR0.out | (with_reducible refine Kd.C_alloc ?_ _) | (with_reducible refine Kd.C_drewN ?_ _) | (with_reducible refine Kd.C_drew ?_)));(case side2=>exact HC0.out);rintro e w7 ⟨v2,v5,rfl,ho0,ho1,hb⟩;refine ⟨_,rfl,?_⟩;have HO3:=a0_ (Kd.R_lower ho0 (below_size hb_));have HO6:=a0_ (Kd.R_lower ho1 (below_size hb_));replace HB:=a0_ (below_step hb_ hb);(try clear hb);(try clear ho0);(try clear ho1)) | ((with_reducible refine gate_dst (N:=3) rfl ?_);refine box_event ?hg (N:=3) ?hd (cs:=#[.slice none 0 0]) (t:=25) ?hr ?_;(case hd=>rfl);(case hg=>rfl);(case hr=>first | (go_simp;done) | (go_simp;rfl));intro gb9 hg w8 hbox hb;replace HO3:=rb_ HO3 hb;replace HO6:=rb_ HO6 hb;have BK9:=a0_ (hbox);have GW9:=a0_ ((by rw [hg];exact (below_size hb_) : w.heap.size ≤ gb9));have GE9:=a0_ ((by rw [hg];exact (below_size hb_) : w.heap.size ≤ gb9));replace HB:=a0_ (below_step hb_ hb);clear hb hbox hg) | ((with_reducible refine gate_dst (N:=4) rfl ?_);refine box_event ?hg (N:=4) ?hd (cs:=#[.slice none 0 0]) (t:=28) ?hr ?_;(case hd=>rfl);(case hg=>rfl);(case hr=>first | (go_simp;done) | (go_simp;rfl));intro gb10 hg w9 hbox hb;have n0_:=rb_ HO3 hb;have n1_:=rb_ HO6 hb;have n2_:=kb_ BK9 hb;have n3_:=a0_ (below_step hb_ hb);have n4_:=a0_ (hbox);have n5_:=a0_ ((by rw [hg];exact (below_size hb_) : w.heap.size ≤ gb10));have n6_:=a0_ ((by rw [hg];exact (below_size hb_) : w.heap.size ≤ gb10));have n7_:=a0_ ((by rw [hg];exact Nat.ne_of_lt (blk_lt (bb_ BK9.out)) : gb9 ≠ gb10));have n8_:=a0_ ((by rw [hg];exact Nat.ne_of_gt (blk_lt (bb_ BK9.out)) : gb10 ≠ gb9));clear HO3 HO6;clear BK9 HB;have HO3:=n0_;have HO6:=n1_;have BK9:=n2_;have HB:=n3_;have BK10:=n4_;have GW10:=n5_;have GE10:=n6_;have NB9_10:=n7_;have NB10_9:=n8_;clear n0_ n1_ n2_ n3_ n4_ n5_ n6_ n7_ n8_;clear hb hbox hg;obtain ⟨Ao10,co10,eo10⟩:=Kd.R_slice HO3.out;subst eo10;have hnb11:=NB9_10.out;have hnc11:=NB10_9.out;have hcz12_0 : w9.cell? ⟨gb9,0,none⟩ = some (.slice none 0 0):=(blk_cell BK9.out 0).trans rfl;have hfz12_0:=blk_frozen BK9.out 0;obtain ⟨Ao13,co13,eo13⟩:=Kd.R_slice HO6.out;subst eo13;have hcz14_0 : w9.cell? ⟨gb10,0,none⟩ = some (.slice none 0 0):=(blk_cell BK10.out 0).trans rfl;have hfz14_0:=blk_frozen BK10.out 0) | ((with_reducible refine gate_callee (f:=24) rfl ?_);refine goesL_ (some 28) rfl rfl Try.func24 (by kernel_rfl) rfl #[.agg #[.slice Ao10 t1.length co10],.agg #[.slice Ao13 t4.length co13],.int .i64 t7,.int .i64 t8] rfl lm_ ?_;(with_reducible refine (impl_SetCause.calls _ _ t1 _ _ t4 t7 t8 t11 t14 _ ?side1 ?side2 ?side3 ?side4 A4.out).mono ?_);(case side1=>refine (Kd.R_reads' (e:=87) (base:=w.heap.size) (ok:=fun k_=>True) (n:=t1.length) (c:=co10) ?_).2.2;exact (by (with_reducible repeat (first | apply Kd.R_alloc | apply Kd.R_drewN | apply Kd.R_drew));exact (Kd.R_mono (Kd.R_mono (Kd.R_far (p:=⟨gb10,0,none⟩) (Kd.R_far (p:=⟨gb9,0,none⟩) (Kd.R_types (Kd.R_types HO3.out BK9.out (by decide)) BK10.out (by decide)) (fun _ hk=>hk.1.2) (.slice Ao10 t1.length co10)) (fun _ hk=>hk.2) (.slice Ao13 t4.length co13)) (fun _ h_=>h_.1)) (fun _ h_=>h_.1))));(case side2=>exact (Kd.R_reads' HO3.out).2.1);(case side3=>refine (Kd.R_reads' (e:=43) (base:=w.heap.size) (ok:=fun k_=>True) (n:=t4.length) (c:=co13) ?_).2.2;exact (by (with_reducible repeat (first | apply Kd.R_alloc | apply Kd.R_drewN | apply Kd.R_drew));exact (Kd.R_mono (Kd.R_mono (Kd.R_far (p:=⟨gb10,0,none⟩) (Kd.R_far (p:=⟨gb9,0,none⟩) (Kd.R_types (Kd.R_types HO6.out BK9.out (by decide)) BK10.out (by decide)) (fun _ hk=>hk.1.2) (.slice Ao10 t1.length co10)) (fun _ hk=>hk.2) (.slice Ao13 t4.length co13)) (fun _ h_=>h_.1)) (fun _ h_=>h_.1))));(case side4=>exact (Kd.R_reads' HO6.out).2.1);rintro e w15 ⟨v12,rfl,ho0,hb⟩;refine ⟨_,rfl,?_⟩;have n0_:=a0_ (Kd.R_below (by (with_reducible repeat (first | apply Kd.R_alloc | apply Kd.R_drewN | apply Kd.R_drew));exact (Kd.R_mono (Kd.R_mono (Kd.R_far (p:=⟨gb10,0,none⟩) (Kd.R_far (p:=⟨gb9,0,none⟩) (Kd.R_types (Kd.R_types HO3.out BK9.out (by decide)) BK10.out (by decide)) (fun _ hk=>hk.1.2) (.slice Ao10 t1.length co10)) (fun _ hk=>hk.2) (.slice Ao13 t4.length co13)) (fun _ h_=>h_.1)) (fun _ h_=>h_.1))) hb);have n1_:=a0_ (Kd.R_elder' (by (with_reducible repeat (first | apply Kd.R_alloc | apply Kd.R_drewN | apply Kd.R_drew));exact (Kd.R_mono (Kd.R_mono (Kd.R_far (p:=⟨gb10,0,none⟩) (Kd.R_far (p:=⟨gb9,0,none⟩) (Kd.R_types (Kd.R_types HO6.out BK9.out (by decide)) BK10.out (by decide)) (fun _ hk=>hk.1.2) (.slice Ao10 t1.length co10)) (fun _ hk=>hk.2) (.slice Ao13 t4.length co13)) (fun _ h_=>h_.1)) (fun _ h_=>h_.1))) (Kd.R_base ho0) hb);have n2_:=a0_ (Kd.R_lower (Kd.R_new' ho0 (Kd.R_lt (by (with_reducible repeat (first | apply Kd.R_alloc | apply Kd.R_drewN | apply Kd.R_drew));exact (Kd.R_mono (Kd.R_mono (Kd.R_far (p:=⟨gb10,0,none⟩) (Kd.R_far (p:=⟨gb9,0,none⟩) (Kd.R_types (Kd.R_types HO6.out BK9.out (by decide)) BK10.out (by decide)) (fun _ hk=>hk.1.2) (.slice Ao10 t1.length co10)) (fun _ hk=>hk.2) (.slice Ao13 t4.length co13)) (fun _ h_=>h_.1)) (fun _ h_=>h_.1))))) (below_size hb_));have n3_:=a0_ (blk_below (g:=gb9) (o:=.cells #[.slice Ao10 t1.length co10] 25 (0,0)) (by (with_reducible repeat (first | refine blk_drewN ?_ _ | refine blk_drew ?_ | refine blk_alloc ?_ _));refine blk_far ?_ NB9_10.out _;(with_reducible repeat (first | refine blk_drewN ?_ _ | refine blk_drew ?_ | refine blk_alloc ?_ _));refine blk_put (cs:=#[.slice none 0 0]) ?_ 0 _ rfl;(with_reducible repeat (first | refine blk_drewN ?_ _ | refine blk_drew ?_ | refine blk_alloc ?_ _));exact BK9.out) hb);have n4_:=a0_ (blk_below (g:=gb10) (o:=.cells #[.slice Ao13 t4.length co13] 28 (0,0)) (by (with_reducible repeat (first | refine blk_drewN ?_ _ | refine blk_drew ?_ | refine blk_alloc ?_ _));refine blk_put (cs:=#[.slice none 0 0]) ?_ 0 _ rfl;(with_reducible repeat (first | refine blk_drewN ?_ _ | refine blk_drew ?_ | refine blk_alloc ?_ _));refine blk_far ?_ NB10_9.out _;(with_reducible repeat (first | refine blk_drewN ?_ _ | refine blk_drew ?_ | refine blk_alloc ?_ _));exact BK10.out) hb);have n5_:=a0_ (below_step hb_ hb);clear HO3 HO6;clear BK9 BK10 HB;have HO3:=n0_;have HO6:=n1_;have HO13:=n2_;have BK9:=n3_;have BK10:=n4_;have HB:=n5_;clear n0_ n1_ n2_ n3_ n4_ n5_;(try clear hb);(try clear ho0)) | ((with_reducible refine gate_dst (N:=7) rfl ?_);refine box_event ?hg (N:=7) ?hd (cs:=#[.slice none 0 0]) (t:=28) ?hr ?_;(case hd=>rfl);(case hg=>rfl);(case hr=>first | (go_simp;done) | (go_simp;rfl));intro gb15 hg w16 hbox hb;have n0_:=rb_ HO3 hb;have n1_:=rb_ HO6 hb;have n2_:=rb_ HO13 hb;have n3_:=kb_ BK9 hb;have n4_:=kb_ BK10 hb;have n5_:=a0_ (below_step hb_ hb);have n6_:=a0_ (hbox);have n7_:=a0_ ((by rw [hg];exact (below_size hb_) : w.heap.size ≤ gb15));have n8_:=a0_ ((by rw [hg];exact (below_size hb_) : w.heap.size ≤ gb15));have n9_:=a0_ ((by rw [hg];exact Nat.ne_of_lt (blk_lt (bb_ BK9.out)) : gb9 ≠ gb15));have n10_:=a0_ ((by rw [hg];exact Nat.ne_of_gt (blk_lt (bb_ BK9.out)) : gb15 ≠ gb9));have n11_:=a0_ ((by rw [hg];exact Nat.ne_of_lt (blk_lt (bb_ BK10.out)) : gb10 ≠ gb15));have n12_:=a0_ ((by rw [hg];exact Nat.ne_of_gt (blk_lt (bb_ BK10.out)) : gb15 ≠ gb10));clear HO3 HO6;clear HO13 BK9;clear BK10 HB;have HO3:=n0_;have HO6:=n1_;have HO13:=n2_;have BK9:=n3_;have BK10:=n4_;have HB:=n5_;have BK15:=n6_;have GW15:=n7_;have GE15:=n8_;have NB9_15:=n9_;have NB15_9:=n10_;have NB10_15:=n11_;have NB15_10:=n12_;clear n0_ n1_ n2_ n3_ n4_ n5_ n6_ n7_ n8_ n9_ n10_ n11_ n12_;clear hb hbox hg;obtain ⟨Ao17,co17,eo17⟩:=Kd.R_slice HO13.out;subst eo17;have hnb18:=NB15_9.out;have hnc18:=NB9_15.out;have hnb19:=NB15_10.out;have hnc19:=NB10_15.out;have hcz20_0 : w16.cell? ⟨gb15,0,none⟩ = some (.slice none 0 0):=(blk_cell BK15.out 0).trans rfl;have hfz20_0:=blk_frozen BK15.out 0;have hcz21_0 : w16.cell? ⟨gb9,0,none⟩ = some (.slice Ao10 t1.length co10):=(blk_cell BK9.out 0).trans rfl;have hfz21_0:=blk_frozen BK9.out 0;have hcz22_0 : w16.cell? ⟨gb10,0,none⟩ = some (.slice Ao13 t4.length co13):=(blk_cell BK10.out 0).trans rfl;have hfz22_0:=blk_frozen BK10.out 0) | ((with_reducible refine gate_callee (f:=25) rfl ?_);refine goesL_ (some 36) rfl rfl Try.func25 (by kernel_rfl) rfl #[.agg #[.slice Ao10 t1.length co10],.agg #[.slice Ao13 t4.length co13],.int .i64 t7,.int .i64 t8] rfl lm_ ?_;(with_reducible refine (spec_SetCause.calls k _ _ t1 _ _ t4 t7 t8 t16 t19 _ ?side1 ?side2 ?side3 ?side4 A5.out).mono ?_);(case side1=>refine (Kd.R_reads' (e:=87) (base:=w.heap.size) (ok:=fun k_=>True) (n:=t1.length) (c:=co10) ?_).2.2;exact (by (with_reducible repeat (first | apply Kd.R_alloc | apply Kd.R_drewN | apply Kd.R_drew));exact (Kd.R_mono (Kd.R_far (p:=⟨gb15,0,none⟩) (Kd.R_types HO3.out BK15.out (by decide)) (fun _ hk=>hk.2) (.slice Ao17 t11.length co17)) (fun _ h_=>h_.1))));(case side2=>exact (Kd.R_reads' HO3.out).2.1);(case side3=>refine (Kd.R_reads' (e:=43) (base:=w.heap.size) (ok:=fun k_=>(True ∧ some k_ ≠ (.slice Ao17 t11.length co17 : Value).ownBlock)) (n:=t4.length) (c:=co13) ?_).2.2;exact (by (with_reducible repeat (first | apply Kd.R_alloc | apply Kd.R_drewN | apply Kd.R_drew));exact (Kd.R_mono (Kd.R_far (p:=⟨gb15,0,none⟩) (Kd.R_types HO6.out BK15.out (by decide)) (fun _ hk=>hk.2) (.slice Ao17 t11.length co17)) (fun _ h_=>h_.1))));(case side4=>exact (Kd.R_reads' HO6.out).2.1);rintro e w23 ⟨v17,rfl,ho0,hb⟩;refine ⟨_,rfl,?_⟩;have n0_:=a0_ (Kd.R_below (by (with_reducible repeat (first | apply Kd.R_alloc | apply Kd.R_drewN | apply Kd.R_drew));exact (Kd.R_mono (Kd.R_far (p:=⟨gb15,0,none⟩) (Kd.R_types HO3.out BK15.out (by decide)) (fun _ hk=>hk.2) (.slice Ao17 t11.length co17)) (fun _ h_=>h_.1))) hb);have n1_:=a0_ (Kd.R_elder' (by (with_reducible repeat (first | apply Kd.R_alloc | apply Kd.R_drewN | apply Kd.R_drew));exact (Kd.R_mono (Kd.R_far (p:=⟨gb15,0,none⟩) (Kd.R_types HO6.out BK15.out (by decide)) (fun _ hk=>hk.2) (.slice Ao17 t11.length co17)) (fun _ h_=>h_.1))) (Kd.R_base ho0) hb);have n2_:=a0_ (Kd.R_elder' (by (with_reducible repeat (first | apply Kd.R_alloc | apply Kd.R_drewN | apply Kd.R_drew));exact (Kd.R_mono (Kd.R_far (p:=⟨gb15,0,none⟩) (Kd.R_types HO13.out BK15.out (by decide)) (fun _ hk=>hk.2) (.slice Ao17 t11.length co17)) (fun _ h_=>h_.1))) (Kd.R_base ho0) hb);have n3_:=a0_ (Kd.R_lower (Kd.R_new' (Kd.R_new' ho0 (Kd.R_lt (by (with_reducible repeat (first | apply Kd.R_alloc | apply Kd.R_drewN | apply Kd.R_drew));exact (Kd.R_mono (Kd.R_far (p:=⟨gb15,0,none⟩) (Kd.R_types HO6.out BK15.out (by decide)) (fun _ hk=>hk.2) (.slice Ao17 t11.length co17)) (fun _ h_=>h_.1))))) (Kd.R_lt (by (with_reducible repeat (first | apply Kd.R_alloc | apply Kd.R_drewN | apply Kd.R_drew));exact (Kd.R_mono (Kd.R_far (p:=⟨gb15,0,none⟩) (Kd.R_types HO13.out BK15.out (by decide)) (fun _ hk=>hk.2) (.slice Ao17 t11.length co17)) (fun _ h_=>h_.1))))) (below_size hb_));have n4_:=kf_ BK9 NB9_15 hb;have n5_:=kf_ BK10 NB10_15 hb;have n6_:=a0_ (blk_below (g:=gb15) (o:=.cells #[.slice Ao17 t11.length co17] 28 (0,0)) (by (with_reducible repeat (first | refine blk_drewN ?_ _ | refine blk_drew ?_ | refine blk_alloc ?_ _));refine blk_put (cs:=#[.slice none 0 0]) ?_ 0 _ rfl;(with_reducible repeat (first | refine blk_drewN ?_ _ | refine blk_drew ?_ | refine blk_alloc ?_ _));exact BK15.out) hb);have n7_:=a0_ (below_step hb_ hb);clear HO3 HO6;clear HO13 BK9;clear BK10 BK15 HB;have HO3:=n0_;have HO6:=n1_;have HO13:=n2_;have HO18:=n3_;have BK9:=n4_;have BK10:=n5_;have BK15:=n6_;have HB:=n7_;clear n0_ n1_ n2_ n3_ n4_ n5_ n6_ n7_;(try clear hb);(try clear ho0)) | ((with_reducible refine gate_dst (N:=9) rfl ?_);refine box_event ?hg (N:=9) ?hd (cs:=#[.slice none 0 0]) (t:=28) ?hr ?_;(case hd=>rfl);(case hg=>rfl);(case hr=>first | (go_simp;done) | (go_simp;rfl));intro gb20 hg w24 hbox hb;have n0_:=rb_ HO3 hb;have n1_:=rb_ HO6 hb;have n2_:=rb_ HO13 hb;have n3_:=rb_ HO18 hb;have n4_:=kb_ BK9 hb;have n5_:=kb_ BK10 hb;have n6_:=kb_ BK15 hb;have n7_:=a0_ (below_step hb_ hb);have n8_:=a0_ (hbox);have n9_:=a0_ ((by rw [hg];exact (below_size hb_) : w.heap.size ≤ gb20));have n10_:=a0_ ((by rw [hg];exact (below_size hb_) : w.heap.size ≤ gb20));have n11_:=a0_ ((by rw [hg];exact Nat.ne_of_lt (blk_lt (bb_ BK9.out)) : gb9 ≠ gb20));have n12_:=a0_ ((by rw [hg];exact Nat.ne_of_gt (blk_lt (bb_ BK9.out)) : gb20 ≠ gb9));have n13_:=a0_ ((by rw [hg];exact Nat.ne_of_lt (blk_lt (bb_ BK10.out)) : gb10 ≠ gb20));have n14_:=a0_ ((by rw [hg];exact Nat.ne_of_gt (blk_lt (bb_ BK10.out)) : gb20 ≠ gb10));have n15_:=a0_ ((by rw [hg];exact Nat.ne_of_lt (blk_lt (bb_ BK15.out)) : gb15 ≠ gb20));have n16_:=a0_ ((by rw [hg];exact Nat.ne_of_gt (blk_lt (bb_ BK15.out)) : gb20 ≠ gb15));clear HO3 HO6;clear HO13 HO18;clear BK9 BK10;clear BK15 HB;have HO3:=n0_;have HO6:=n1_;have HO13:=n2_;have HO18:=n3_;have BK9:=n4_;have BK10:=n5_;have BK15:=n6_;have HB:=n7_;have BK20:=n8_;have GW20:=n9_;have GE20:=n10_;have NB9_20:=n11_;have NB20_9:=n12_;have NB10_20:=n13_;have NB20_10:=n14_;have NB15_20:=n15_;have NB20_15:=n16_;clear n0_ n1_ n2_ n3_ n4_ n5_ n6_ n7_ n8_ n9_ n10_ n11_ n12_ n13_ n14_ n15_ n16_;clear hb hbox hg;obtain ⟨Ao25,co25,eo25⟩:=Kd.R_slice HO18.out;subst eo25;have hnb26:=NB20_9.out;have hnc26:=NB9_20.out;have hnb27:=NB20_10.out;have hnc27:=NB10_20.out;have hnb28:=NB20_15.out;have hnc28:=NB15_20.out;have hcz29_0 : w24.cell? ⟨gb20,0,none⟩ = some (.slice none 0 0):=(blk_cell BK20.out 0).trans rfl;have hfz29_0:=blk_frozen BK20.out 0))
  (try simp only [Act.put,s1_,s2_,s3_])
  go_cut [51] (fun v51 wc=>∃ (kq : Nat) (x51_5 : Bool),v51 = .bool x51_5 ∧ Aside0 (laws_FnSetCause.j0 kq t7 t8 t14 t19 x51_5 t1 t4 t11 t16 = some r) ∧ Aside0 (kq ≤ k) ∧ Aside0 (Kd.R k87 87 wc w.heap.size (fun _=>True) (.slice Ao10 t1.length co10) t1) ∧ Aside0 (Kd.R k43 43 wc w.heap.size (fun k_=>some k_ ≠ ((.slice Ao17 t11.length co17) : Value).ownBlock ∧ some k_ ≠ ((.slice Ao25 t16.length co25) : Value).ownBlock) (.slice Ao13 t4.length co13) t4) ∧ Aside0 (Kd.R k43 43 wc w.heap.size (fun k_=>some k_ ≠ ((.slice Ao13 t4.length co13) : Value).ownBlock ∧ some k_ ≠ ((.slice Ao25 t16.length co25) : Value).ownBlock) (.slice Ao17 t11.length co17) t11) ∧ Aside0 (Kd.R k43 43 wc w.heap.size (fun k_=>some k_ ≠ ((.slice Ao13 t4.length co13) : Value).ownBlock ∧ some k_ ≠ ((.slice Ao17 t11.length co17) : Value).ownBlock) (.slice Ao25 t16.length co25) t16) ∧ Aside0 (wc.heap[gb9]? = some (.cells #[(.slice Ao10 t1.length co10)] 25 (0,0))) ∧ Aside0 (wc.heap[gb10]? = some (.cells #[(.slice Ao13 t4.length co13)] 28 (0,0))) ∧ Aside0 (wc.heap[gb15]? = some (.cells #[(.slice Ao17 t11.length co17)] 28 (0,0))) ∧ Aside0 (wc.heap[gb20]? = some (.cells #[(.slice Ao25 t16.length co25)] 28 (0,0))) ∧ Aside0 (Below w.heap.size w wc))
  case first =>
   have H:=HC6.out
   clear HC6
   replace H:=Option.bind_eq_some_iff.mp H
   obtain ⟨t21,A300,H⟩:=H
   try dsimp only at H
   have A30:=a0_ A300
   clear A300
   by_cases c31 : t21 = true
   ·subst c31
    have H1 : (if (t14 != t19) = true then (laws_FnSetCause.j0 k t7 t8 t14 t19 true t1 t4 t11 t16) else (laws_FnSetCause.j0 k t7 t8 t14 t19 (!t14) t1 t4 t11 t16)) = some r:=by rw [if_pos rfl] at H;exact H
    clear H
    have H:=H1
    clear H1
    by_cases c32 : (t14 != t19) = true
    ·rw [if_pos c32] at H
     have c32b0 : (t14 != t19) = true:=c32
     (try (have c32b1 : decide (t14 = t19) = false:=by simpa using c32))
     (try (have c32b2 : (t14 == t19) = false:=by simpa using c32))
     (try (have c32b3 : ¬ (t14 = t19):=by simpa using c32))
     clear c32
     (first | rw [c32b0] | (simp only [i64_w,i32_w];rw [c32b0]) | skip)
     have H':=a0_ H
     clear H
     have hnb33:=NB15_9.out
     have hnc33:=NB9_15.out
     have hnb34:=NB15_10.out
     have hnc34:=NB10_15.out
     have hnb35:=NB15_20.out
     have hnc35:=NB20_15.out
     have hcz36_0 : w24.cell? ⟨gb15,0,none⟩ = some (.slice Ao17 t11.length co17):=(blk_cell BK15.out 0).trans rfl
     have hfz36_0:=blk_frozen BK15.out 0
     have hnb37:=NB20_9.out
     have hnc37:=NB9_20.out
     have hnb38:=NB20_10.out
     have hnc38:=NB10_20.out
     have hcz39_0 : w24.cell? ⟨gb20,0,none⟩ = some (.slice none 0 0):=(blk_cell BK20.out 0).trans rfl
     have hfz39_0:=blk_frozen BK20.out 0
     go_wp2_with (first | ((with_reducible refine gate_callee (f:=19) rfl ?_);refine goesL_ (some 41) rfl rfl Try.func19 (by kernel_rfl) rfl #[.agg #[.slice Ao17 t11.length co17],.agg #[.slice Ao25 t16.length co25]] rfl lm_ ?_;(with_reducible refine (laws_equalHeap.calls k _ _ t11 _ _ t16 true _ ?side1 ?side2 ?side3 ?side4 A30.out).mono ?_);(case side1=>refine (Kd.R_reads' (e:=43) (base:=w.heap.size) (ok:=fun k_=>((True ∧ some k_ ≠ (.slice Ao13 t4.length co13 : Value).ownBlock) ∧ some k_ ≠ (.slice Ao25 t16.length co25 : Value).ownBlock)) (n:=t11.length) (c:=co17) ?_).2.2;exact (by (with_reducible repeat (first | apply Kd.R_alloc | apply Kd.R_drewN | apply Kd.R_drew));exact (Kd.R_mono (Kd.R_far (p:=⟨gb20,0,none⟩) (Kd.R_types HO13.out BK20.out (by decide)) (fun _ hk=>hk.2) (.slice Ao25 t16.length co25)) (fun _ h_=>h_.1))));(case side2=>exact (Kd.R_reads' HO13.out).2.1);(case side3=>refine (Kd.R_reads' (e:=43) (base:=w.heap.size) (ok:=fun k_=>((True ∧ some k_ ≠ (.slice Ao13 t4.length co13 : Value).ownBlock) ∧ some k_ ≠ (.slice Ao17 t11.length co17 : Value).ownBlock)) (n:=t16.length) (c:=co25) ?_).2.2;exact (by (with_reducible repeat (first | apply Kd.R_alloc | apply Kd.R_drewN | apply Kd.R_drew));exact (Kd.R_mono (Kd.R_far (p:=⟨gb20,0,none⟩) (Kd.R_types HO18.out BK20.out (by decide)) (fun _ hk=>hk.2) (.slice Ao25 t16.length co25)) (fun _ h_=>h_.1))));(case side4=>exact (Kd.R_reads' HO18.out).2.1);rintro e w40 ⟨rfl,hb⟩;refine ⟨_,rfl,?_⟩;replace HO3:=a0_ (Kd.R_below (by (with_reducible repeat (first | apply Kd.R_alloc | apply Kd.R_drewN | apply Kd.R_drew));exact (Kd.R_mono (Kd.R_far (p:=⟨gb20,0,none⟩) (Kd.R_types HO3.out BK20.out (by decide)) (fun _ hk=>hk.2) (.slice Ao25 t16.length co25)) (fun _ h_=>h_.1))) hb);replace HO6:=a0_ (Kd.R_below (by (with_reducible repeat (first | apply Kd.R_alloc | apply Kd.R_drewN | apply Kd.R_drew));exact (Kd.R_mono (Kd.R_far (p:=⟨gb20,0,none⟩) (Kd.R_types HO6.out BK20.out (by decide)) (fun _ hk=>hk.2) (.slice Ao25 t16.length co25)) (fun _ h_=>h_.1))) hb);replace HO13:=a0_ (Kd.R_below (by (with_reducible repeat (first | apply Kd.R_alloc | apply Kd.R_drewN | apply Kd.R_drew));exact (Kd.R_mono (Kd.R_far (p:=⟨gb20,0,none⟩) (Kd.R_types HO13.out BK20.out (by decide)) (fun _ hk=>hk.2) (.slice Ao25 t16.length co25)) (fun _ h_=>h_.1))) hb);replace HO18:=a0_ (Kd.R_below (by (with_reducible repeat (first | apply Kd.R_alloc | apply Kd.R_drewN | apply Kd.R_drew));exact (Kd.R_mono (Kd.R_far (p:=⟨gb20,0,none⟩) (Kd.R_types HO18.out BK20.out (by decide)) (fun _ hk=>hk.2) (.slice Ao25 t16.length co25)) (fun _ h_=>h_.1))) hb);replace BK9:=kf_ BK9 NB9_20 hb;replace BK10:=kf_ BK10 NB10_20 hb;replace BK15:=kf_ BK15 NB15_20 hb;replace BK20:=a0_ (blk_below (g:=gb20) (o:=.cells #[.slice Ao25 t16.length co25] 28 (0,0)) (by (with_reducible repeat (first | refine blk_drewN ?_ _ | refine blk_drew ?_ | refine blk_alloc ?_ _));refine blk_put (cs:=#[.slice none 0 0]) ?_ 0 _ rfl;(with_reducible repeat (first | refine blk_drewN ?_ _ | refine blk_drew ?_ | refine blk_alloc ?_ _));exact BK20.out) hb);replace HB:=a0_ (below_step hb_ hb);(try clear hb);(try clear hb2);(try clear hk);(try clear hi)))
     go_meet
     case rel=>exact ⟨_,(true),(by first | rfl | (simp;done) | (simp [*];done)),H',⟨by first | omega | exact Nat.le_refl _⟩,⟨by (with_reducible repeat (first | apply Kd.R_alloc | apply Kd.R_drewN | apply Kd.R_drew));exact HO3.out⟩,⟨by (with_reducible repeat (first | apply Kd.R_alloc | apply Kd.R_drewN | apply Kd.R_drew));exact Kd.R_mono HO6.out (fun _ hk=>⟨hk.1.2,hk.2⟩)⟩,⟨by (with_reducible repeat (first | apply Kd.R_alloc | apply Kd.R_drewN | apply Kd.R_drew));exact Kd.R_mono HO13.out (fun _ hk=>⟨hk.1.2,hk.2⟩)⟩,⟨by (with_reducible repeat (first | apply Kd.R_alloc | apply Kd.R_drewN | apply Kd.R_drew));exact Kd.R_mono HO18.out (fun _ hk=>⟨hk.1.2,hk.2⟩)⟩,⟨by (with_reducible repeat (first | refine blk_drewN ?_ _ | refine blk_drew ?_ | refine blk_alloc ?_ _));exact BK9.out⟩,⟨by (with_reducible repeat (first | refine blk_drewN ?_ _ | refine blk_drew ?_ | refine blk_alloc ?_ _));exact BK10.out⟩,⟨by (with_reducible repeat (first | refine blk_drewN ?_ _ | refine blk_drew ?_ | refine blk_alloc ?_ _));exact BK15.out⟩,⟨by (with_reducible repeat (first | refine blk_drewN ?_ _ | refine blk_drew ?_ | refine blk_alloc ?_ _));exact BK20.out⟩,⟨hb_⟩⟩
    ·rw [if_neg c32] at H
     have c32b0 : (t14 != t19) = false:=by simpa using c32
     (try (have c32b1 : decide (t14 = t19) = true:=by simpa using c32))
     (try (have c32b2 : (t14 == t19) = true:=by simpa using c32))
     clear c32
     (first | rw [c32b0] | (simp only [i64_w,i32_w];rw [c32b0]) | skip)
     have H':=a0_ H
     clear H
     have hnb41:=NB15_9.out
     have hnc41:=NB9_15.out
     have hnb42:=NB15_10.out
     have hnc42:=NB10_15.out
     have hnb43:=NB15_20.out
     have hnc43:=NB20_15.out
     have hcz44_0 : w24.cell? ⟨gb15,0,none⟩ = some (.slice Ao17 t11.length co17):=(blk_cell BK15.out 0).trans rfl
     have hfz44_0:=blk_frozen BK15.out 0
     have hnb45:=NB20_9.out
     have hnc45:=NB9_20.out
     have hnb46:=NB20_10.out
     have hnc46:=NB10_20.out
     have hcz47_0 : w24.cell? ⟨gb20,0,none⟩ = some (.slice none 0 0):=(blk_cell BK20.out 0).trans rfl
     have hfz47_0:=blk_frozen BK20.out 0
     go_wp2_with (first | ((with_reducible refine gate_callee (f:=19) rfl ?_);refine goesL_ (some 41) rfl rfl Try.func19 (by kernel_rfl) rfl #[.agg #[.slice Ao17 t11.length co17],.agg #[.slice Ao25 t16.length co25]] rfl lm_ ?_;(with_reducible refine (laws_equalHeap.calls k _ _ t11 _ _ t16 true _ ?side1 ?side2 ?side3 ?side4 A30.out).mono ?_);(case side1=>refine (Kd.R_reads' (e:=43) (base:=w.heap.size) (ok:=fun k_=>((True ∧ some k_ ≠ (.slice Ao13 t4.length co13 : Value).ownBlock) ∧ some k_ ≠ (.slice Ao25 t16.length co25 : Value).ownBlock)) (n:=t11.length) (c:=co17) ?_).2.2;exact (by (with_reducible repeat (first | apply Kd.R_alloc | apply Kd.R_drewN | apply Kd.R_drew));exact (Kd.R_mono (Kd.R_far (p:=⟨gb20,0,none⟩) (Kd.R_types HO13.out BK20.out (by decide)) (fun _ hk=>hk.2) (.slice Ao25 t16.length co25)) (fun _ h_=>h_.1))));(case side2=>exact (Kd.R_reads' HO13.out).2.1);(case side3=>refine (Kd.R_reads' (e:=43) (base:=w.heap.size) (ok:=fun k_=>((True ∧ some k_ ≠ (.slice Ao13 t4.length co13 : Value).ownBlock) ∧ some k_ ≠ (.slice Ao17 t11.length co17 : Value).ownBlock)) (n:=t16.length) (c:=co25) ?_).2.2;exact (by (with_reducible repeat (first | apply Kd.R_alloc | apply Kd.R_drewN | apply Kd.R_drew));exact (Kd.R_mono (Kd.R_far (p:=⟨gb20,0,none⟩) (Kd.R_types HO18.out BK20.out (by decide)) (fun _ hk=>hk.2) (.slice Ao25 t16.length co25)) (fun _ h_=>h_.1))));(case side4=>exact (Kd.R_reads' HO18.out).2.1);rintro e w48 ⟨rfl,hb⟩;refine ⟨_,rfl,?_⟩;replace HO3:=a0_ (Kd.R_below (by (with_reducible repeat (first | apply Kd.R_alloc | apply Kd.R_drewN | apply Kd.R_drew));exact (Kd.R_mono (Kd.R_far (p:=⟨gb20,0,none⟩) (Kd.R_types HO3.out BK20.out (by decide)) (fun _ hk=>hk.2) (.slice Ao25 t16.length co25)) (fun _ h_=>h_.1))) hb);replace HO6:=a0_ (Kd.R_below (by (with_reducible repeat (first | apply Kd.R_alloc | apply Kd.R_drewN | apply Kd.R_drew));exact (Kd.R_mono (Kd.R_far (p:=⟨gb20,0,none⟩) (Kd.R_types HO6.out BK20.out (by decide)) (fun _ hk=>hk.2) (.slice Ao25 t16.length co25)) (fun _ h_=>h_.1))) hb);replace HO13:=a0_ (Kd.R_below (by (with_reducible repeat (first | apply Kd.R_alloc | apply Kd.R_drewN | apply Kd.R_drew));exact (Kd.R_mono (Kd.R_far (p:=⟨gb20,0,none⟩) (Kd.R_types HO13.out BK20.out (by decide)) (fun _ hk=>hk.2) (.slice Ao25 t16.length co25)) (fun _ h_=>h_.1))) hb);replace HO18:=a0_ (Kd.R_below (by (with_reducible repeat (first | apply Kd.R_alloc | apply Kd.R_drewN | apply Kd.R_drew));exact (Kd.R_mono (Kd.R_far (p:=⟨gb20,0,none⟩) (Kd.R_types HO18.out BK20.out (by decide)) (fun _ hk=>hk.2) (.slice Ao25 t16.length co25)) (fun _ h_=>h_.1))) hb);replace BK9:=kf_ BK9 NB9_20 hb;replace BK10:=kf_ BK10 NB10_20 hb;replace BK15:=kf_ BK15 NB15_20 hb;replace BK20:=a0_ (blk_below (g:=gb20) (o:=.cells #[.slice Ao25 t16.length co25] 28 (0,0)) (by (with_reducible repeat (first | refine blk_drewN ?_ _ | refine blk_drew ?_ | refine blk_alloc ?_ _));refine blk_put (cs:=#[.slice none 0 0]) ?_ 0 _ rfl;(with_reducible repeat (first | refine blk_drewN ?_ _ | refine blk_drew ?_ | refine blk_alloc ?_ _));exact BK20.out) hb);replace HB:=a0_ (below_step hb_ hb);(try clear hb);(try clear hb2);(try clear hk);(try clear hi)))
     go_meet
     case rel=>exact ⟨_,(!t14),(by first | rfl | (simp;done) | (simp [*];done)),H',⟨by first | omega | exact Nat.le_refl _⟩,⟨by (with_reducible repeat (first | apply Kd.R_alloc | apply Kd.R_drewN | apply Kd.R_drew));exact HO3.out⟩,⟨by (with_reducible repeat (first | apply Kd.R_alloc | apply Kd.R_drewN | apply Kd.R_drew));exact Kd.R_mono HO6.out (fun _ hk=>⟨hk.1.2,hk.2⟩)⟩,⟨by (with_reducible repeat (first | apply Kd.R_alloc | apply Kd.R_drewN | apply Kd.R_drew));exact Kd.R_mono HO13.out (fun _ hk=>⟨hk.1.2,hk.2⟩)⟩,⟨by (with_reducible repeat (first | apply Kd.R_alloc | apply Kd.R_drewN | apply Kd.R_drew));exact Kd.R_mono HO18.out (fun _ hk=>⟨hk.1.2,hk.2⟩)⟩,⟨by (with_reducible repeat (first | refine blk_drewN ?_ _ | refine blk_drew ?_ | refine blk_alloc ?_ _));exact BK9.out⟩,⟨by (with_reducible repeat (first | refine blk_drewN ?_ _ | refine blk_drew ?_ | refine blk_alloc ?_ _));exact BK10.out⟩,⟨by (with_reducible repeat (first | refine blk_drewN ?_ _ | refine blk_drew ?_ | refine blk_alloc ?_ _));exact BK15.out⟩,⟨by (with_reducible repeat (first | refine blk_drewN ?_ _ | refine blk_drew ?_ | refine blk_alloc ?_ _));exact BK20.out⟩,⟨hb_⟩⟩
   ·replace c31:=Bool.eq_false_iff.mpr c31
    subst c31
    have H1 : (laws_FnSetCause.j0 k t7 t8 t14 t19 true t1 t4 t11 t16) = some r:=by rw [if_neg (show ¬ (false = true) by decide)] at H;exact H
    clear H
    have H:=H1
    clear H1
    have H':=a0_ H
    clear H
    have hnb49:=NB15_9.out
    have hnc49:=NB9_15.out
    have hnb50:=NB15_10.out
    have hnc50:=NB10_15.out
    have hnb51:=NB15_20.out
    have hnc51:=NB20_15.out
    have hcz52_0 : w24.cell? ⟨gb15,0,none⟩ = some (.slice Ao17 t11.length co17):=(blk_cell BK15.out 0).trans rfl
    have hfz52_0:=blk_frozen BK15.out 0
    have hnb53:=NB20_9.out
    have hnc53:=NB9_20.out
    have hnb54:=NB20_10.out
    have hnc54:=NB10_20.out
    have hcz55_0 : w24.cell? ⟨gb20,0,none⟩ = some (.slice none 0 0):=(blk_cell BK20.out 0).trans rfl
    have hfz55_0:=blk_frozen BK20.out 0
    go_wp2_with (first | ((with_reducible refine gate_callee (f:=19) rfl ?_);refine goesL_ (some 41) rfl rfl Try.func19 (by kernel_rfl) rfl #[.agg #[.slice Ao17 t11.length co17],.agg #[.slice Ao25 t16.length co25]] rfl lm_ ?_;(with_reducible refine (laws_equalHeap.calls k _ _ t11 _ _ t16 false _ ?side1 ?side2 ?side3 ?side4 A30.out).mono ?_);(case side1=>refine (Kd.R_reads' (e:=43) (base:=w.heap.size) (ok:=fun k_=>((True ∧ some k_ ≠ (.slice Ao13 t4.length co13 : Value).ownBlock) ∧ some k_ ≠ (.slice Ao25 t16.length co25 : Value).ownBlock)) (n:=t11.length) (c:=co17) ?_).2.2;exact (by (with_reducible repeat (first | apply Kd.R_alloc | apply Kd.R_drewN | apply Kd.R_drew));exact (Kd.R_mono (Kd.R_far (p:=⟨gb20,0,none⟩) (Kd.R_types HO13.out BK20.out (by decide)) (fun _ hk=>hk.2) (.slice Ao25 t16.length co25)) (fun _ h_=>h_.1))));(case side2=>exact (Kd.R_reads' HO13.out).2.1);(case side3=>refine (Kd.R_reads' (e:=43) (base:=w.heap.size) (ok:=fun k_=>((True ∧ some k_ ≠ (.slice Ao13 t4.length co13 : Value).ownBlock) ∧ some k_ ≠ (.slice Ao17 t11.length co17 : Value).ownBlock)) (n:=t16.length) (c:=co25) ?_).2.2;exact (by (with_reducible repeat (first | apply Kd.R_alloc | apply Kd.R_drewN | apply Kd.R_drew));exact (Kd.R_mono (Kd.R_far (p:=⟨gb20,0,none⟩) (Kd.R_types HO18.out BK20.out (by decide)) (fun _ hk=>hk.2) (.slice Ao25 t16.length co25)) (fun _ h_=>h_.1))));(case side4=>exact (Kd.R_reads' HO18.out).2.1);rintro e w56 ⟨rfl,hb⟩;refine ⟨_,rfl,?_⟩;replace HO3:=a0_ (Kd.R_below (by (with_reducible repeat (first | apply Kd.R_alloc | apply Kd.R_drewN | apply Kd.R_drew));exact (Kd.R_mono (Kd.R_far (p:=⟨gb20,0,none⟩) (Kd.R_types HO3.out BK20.out (by decide)) (fun _ hk=>hk.2) (.slice Ao25 t16.length co25)) (fun _ h_=>h_.1))) hb);replace HO6:=a0_ (Kd.R_below (by (with_reducible repeat (first | apply Kd.R_alloc | apply Kd.R_drewN | apply Kd.R_drew));exact (Kd.R_mono (Kd.R_far (p:=⟨gb20,0,none⟩) (Kd.R_types HO6.out BK20.out (by decide)) (fun _ hk=>hk.2) (.slice Ao25 t16.length co25)) (fun _ h_=>h_.1))) hb);replace HO13:=a0_ (Kd.R_below (by (with_reducible repeat (first | apply Kd.R_alloc | apply Kd.R_drewN | apply Kd.R_drew));exact (Kd.R_mono (Kd.R_far (p:=⟨gb20,0,none⟩) (Kd.R_types HO13.out BK20.out (by decide)) (fun _ hk=>hk.2) (.slice Ao25 t16.length co25)) (fun _ h_=>h_.1))) hb);replace HO18:=a0_ (Kd.R_below (by (with_reducible repeat (first | apply Kd.R_alloc | apply Kd.R_drewN | apply Kd.R_drew));exact (Kd.R_mono (Kd.R_far (p:=⟨gb20,0,none⟩) (Kd.R_types HO18.out BK20.out (by decide)) (fun _ hk=>hk.2) (.slice Ao25 t16.length co25)) (fun _ h_=>h_.1))) hb);replace BK9:=kf_ BK9 NB9_20 hb;replace BK10:=kf_ BK10 NB10_20 hb;replace BK15:=kf_ BK15 NB15_20 hb;replace BK20:=a0_ (blk_below (g:=gb20) (o:=.cells #[.slice Ao25 t16.length co25] 28 (0,0)) (by (with_reducible repeat (first | refine blk_drewN ?_ _ | refine blk_drew ?_ | refine blk_alloc ?_ _));refine blk_put (cs:=#[.slice none 0 0]) ?_ 0 _ rfl;(with_reducible repeat (first | refine blk_drewN ?_ _ | refine blk_drew ?_ | refine blk_alloc ?_ _));exact BK20.out) hb);replace HB:=a0_ (below_step hb_ hb);(try clear hb);(try clear hb2);(try clear hk);(try clear hi)))
    go_meet
    case rel=>exact ⟨_,(true),(by first | rfl | (simp;done) | (simp [*];done)),H',⟨by first | omega | exact Nat.le_refl _⟩,⟨by (with_reducible repeat (first | apply Kd.R_alloc | apply Kd.R_drewN | apply Kd.R_drew));exact HO3.out⟩,⟨by (with_reducible repeat (first | apply Kd.R_alloc | apply Kd.R_drewN | apply Kd.R_drew));exact Kd.R_mono HO6.out (fun _ hk=>⟨hk.1.2,hk.2⟩)⟩,⟨by (with_reducible repeat (first | apply Kd.R_alloc | apply Kd.R_drewN | apply Kd.R_drew));exact Kd.R_mono HO13.out (fun _ hk=>⟨hk.1.2,hk.2⟩)⟩,⟨by (with_reducible repeat (first | apply Kd.R_alloc | apply Kd.R_drewN | apply Kd.R_drew));exact Kd.R_mono HO18.out (fun _ hk=>⟨hk.1.2,hk.2⟩)⟩,⟨by (with_reducible repeat (first | refine blk_drewN ?_ _ | refine blk_drew ?_ | refine blk_alloc ?_ _));exact BK9.out⟩,⟨by (with_reducible repeat (first | refine blk_drewN ?_ _ | refine blk_drew ?_ | refine blk_alloc ?_ _));exact BK10.out⟩,⟨by (with_reducible repeat (first | refine blk_drewN ?_ _ | refine blk_drew ?_ | refine blk_alloc ?_ _));exact BK15.out⟩,⟨by (with_reducible repeat (first | refine blk_drewN ?_ _ | refine blk_drew ?_ | refine blk_alloc ?_ _));exact BK20.out⟩,⟨hb_⟩⟩
  case rest =>
   clear HC6
   try clear c1
   try clear c2
   try clear c2b0
   try clear c2b1
   try clear p2
   try clear c3
   try clear c4
   try clear c5
   try clear c6
   try clear c11
   try clear c18
   try clear c19
   try clear c23
   try clear c24
   try clear c25
   try clear c26
   try clear c27
   try clear c28
   try clear c31
   try clear c32
   try clear c32b0
   try clear c32b1
   try clear c32b2
   try clear c33
   try clear c34
   try clear c35
   try clear c37
   try clear c38
   try clear c41
   try clear c42
   try clear c43
   try clear c45
   try clear c46
   try clear c49
   try clear c50
   try clear c51
   try clear c53
   try clear c54
   try clear hcz12_0
   try clear hcz14_0
   try clear hcz20_0
   try clear hcz21_0
   try clear hcz22_0
   try clear hcz29_0
   try clear hcz36_0
   try clear hcz39_0
   try clear hcz44_0
   try clear hcz47_0
   try clear hcz52_0
   try clear hcz55_0
   try clear hfz12_0
   try clear hfz14_0
   try clear hfz20_0
   try clear hfz21_0
   try clear hfz22_0
   try clear hfz29_0
   try clear hfz36_0
   try clear hfz39_0
   try clear hfz44_0
   try clear hfz47_0
   try clear hfz52_0
   try clear hfz55_0
   obtain ⟨kq,x51_5,rfl,HA,HJ5,Z10,Z11,Z16,Z21,BK9,BK10,BK15,BK20,HB⟩:=hcut
   cases kq with
   | zero=>exact absurd HA.out (by simp [laws_FnSetCause.j0])
   | succ kj5 =>
    have H:=HA.out
    clear HA
    simp only [laws_FnSetCause.j0] at H
    by_cases c57 : x51_5 = true
    ·subst c57
     have H1 : ((laws_equalHeap.f kj5 t11 t16).bind fun t22=>(if t22 = true then (some (t14 == t19)) else (some false))) = some r:=by rw [if_pos rfl] at H;exact H
     clear H
     have H:=H1
     clear H1
     replace H:=Option.bind_eq_some_iff.mp H
     obtain ⟨t22,A580,H⟩:=H
     try dsimp only at H
     have A58:=a0_ A580
     clear A580
     by_cases c59 : t22 = true
     ·subst c59
      have H1 : (some (t14 == t19)) = some r:=by rw [if_pos rfl] at H;exact H
      clear H
      have H:=H1
      clear H1
      obtain rfl:=Option.some.inj H
      have hnb60:=NB15_9.out
      have hnc60:=NB9_15.out
      have hnb61:=NB15_10.out
      have hnc61:=NB10_15.out
      have hnb62:=NB15_20.out
      have hnc62:=NB20_15.out
      have hcz63_0 : wc.cell? ⟨gb15,0,none⟩ = some (.slice Ao17 t11.length co17):=(blk_cell BK15.out 0).trans rfl
      have hfz63_0:=blk_frozen BK15.out 0
      have hnb64:=NB20_9.out
      have hnc64:=NB9_20.out
      have hnb65:=NB20_10.out
      have hnc65:=NB10_20.out
      have hcz66_0 : wc.cell? ⟨gb20,0,none⟩ = some (.slice Ao25 t16.length co25):=(blk_cell BK20.out 0).trans rfl
      have hfz66_0:=blk_frozen BK20.out 0
      go_wp2_with (first | ((with_reducible refine gate_callee (f:=19) rfl ?_);refine goesL_ (some 54) rfl rfl Try.func19 (by kernel_rfl) rfl #[.agg #[.slice Ao17 t11.length co17],.agg #[.slice Ao25 t16.length co25]] rfl lm_ ?_;(with_reducible refine (laws_equalHeap.calls kj5 _ _ t11 _ _ t16 true _ ?side1 ?side2 ?side3 ?side4 A58.out).mono ?_);(case side1=>exact cc_ (Kd.R_reads' Z16.out).2.2);(case side2=>exact (Kd.R_reads' Z16.out).2.1);(case side3=>exact cc_ (Kd.R_reads' Z21.out).2.2);(case side4=>exact (Kd.R_reads' Z21.out).2.1);rintro e w67 ⟨rfl,hb⟩;refine ⟨_,rfl,?_⟩;replace Z10:=rb_ Z10 hb;replace Z11:=rb_ Z11 hb;replace Z16:=rb_ Z16 hb;replace Z21:=rb_ Z21 hb;replace BK9:=kb_ BK9 hb;replace BK10:=kb_ BK10 hb;replace BK15:=kb_ BK15 hb;replace BK20:=kb_ BK20 hb;replace HB:=a0_ (below_step hb_ hb);(try clear hb);(try clear hb2);(try clear hk);(try clear hi)))
      go_ret
      exact ⟨by first | rfl | (simp [errW_none,errW_some] <;> rfl) | (simp [*,errW_none,errW_some] <;> rfl),hb_⟩
     ·replace c59:=Bool.eq_false_iff.mpr c59
      subst c59
      have H1 : (some false) = some r:=by rw [if_neg (show ¬ (false = true) by decide)] at H;exact H
      clear H
      have H:=H1
      clear H1
      obtain rfl:=Option.some.inj H
      have hnb68:=NB15_9.out
      have hnc68:=NB9_15.out
      have hnb69:=NB15_10.out
      have hnc69:=NB10_15.out
      have hnb70:=NB15_20.out
      have hnc70:=NB20_15.out
      have hcz71_0 : wc.cell? ⟨gb15,0,none⟩ = some (.slice Ao17 t11.length co17):=(blk_cell BK15.out 0).trans rfl
      have hfz71_0:=blk_frozen BK15.out 0
      have hnb72:=NB20_9.out
      have hnc72:=NB9_20.out
      have hnb73:=NB20_10.out
      have hnc73:=NB10_20.out
      have hcz74_0 : wc.cell? ⟨gb20,0,none⟩ = some (.slice Ao25 t16.length co25):=(blk_cell BK20.out 0).trans rfl
      have hfz74_0:=blk_frozen BK20.out 0
      go_wp2_with (first | ((with_reducible refine gate_callee (f:=19) rfl ?_);refine goesL_ (some 54) rfl rfl Try.func19 (by kernel_rfl) rfl #[.agg #[.slice Ao17 t11.length co17],.agg #[.slice Ao25 t16.length co25]] rfl lm_ ?_;(with_reducible refine (laws_equalHeap.calls kj5 _ _ t11 _ _ t16 false _ ?side1 ?side2 ?side3 ?side4 A58.out).mono ?_);(case side1=>exact cc_ (Kd.R_reads' Z16.out).2.2);(case side2=>exact (Kd.R_reads' Z16.out).2.1);(case side3=>exact cc_ (Kd.R_reads' Z21.out).2.2);(case side4=>exact (Kd.R_reads' Z21.out).2.1);rintro e w75 ⟨rfl,hb⟩;refine ⟨_,rfl,?_⟩;replace Z10:=rb_ Z10 hb;replace Z11:=rb_ Z11 hb;replace Z16:=rb_ Z16 hb;replace Z21:=rb_ Z21 hb;replace BK9:=kb_ BK9 hb;replace BK10:=kb_ BK10 hb;replace BK15:=kb_ BK15 hb;replace BK20:=kb_ BK20 hb;replace HB:=a0_ (below_step hb_ hb);(try clear hb);(try clear hb2);(try clear hk);(try clear hi)))
      go_ret
      exact ⟨by first | rfl | (simp [errW_none,errW_some] <;> rfl) | (simp [*,errW_none,errW_some] <;> rfl),hb_⟩
    ·replace c57:=Bool.eq_false_iff.mpr c57
     subst c57
     have H1 : ((impl_SetCause.f t1 t11 t7 t8).bind fun bt23=>((impl_ShownNext.f t1 t11 t7).bind fun t28=>(if t28 = t8 then (if bt23.2 = true then ((laws_equalHeap.f kj5 bt23.1 t11).bind fun t29=>(if t29 = true then ((impl_ContextChain.f t1 t11 t7).bind fun t30=>((impl_ContextChain.f t1 t4 t7).bind fun t33=>((laws_equalInts.f kj5 t30 t33).bind fun t36=>(some t36)))) else (some false))) else (some false)) else (some false)))) = some r:=by rw [if_neg (show ¬ (false = true) by decide)] at H;exact H
     clear H
     have H:=H1
     clear H1
     replace H:=Option.bind_eq_some_iff.mp H
     obtain ⟨⟨t23,t26⟩,A760,H⟩:=H
     try dsimp only at H
     have A76:=a0_ A760
     clear A760
     replace H:=Option.bind_eq_some_iff.mp H
     obtain ⟨t28,A770,H⟩:=H
     try dsimp only at H
     have A77:=a0_ A770
     clear A770
     by_cases c78 : t28 = t8
     ·rw [if_pos c78] at H
      have c78b0 : (t28 == t8) = true:=beq_iff_eq.mpr c78
      have c78b1 : (t28 != t8) = false:=bne_eq_false_iff_eq.mpr c78
      clear c78
      by_cases c79 : t26 = true
      ·subst c79
       have H1 : ((laws_equalHeap.f kj5 t23 t11).bind fun t29=>(if t29 = true then ((impl_ContextChain.f t1 t11 t7).bind fun t30=>((impl_ContextChain.f t1 t4 t7).bind fun t33=>((laws_equalInts.f kj5 t30 t33).bind fun t36=>(some t36)))) else (some false))) = some r:=by rw [if_pos rfl] at H;exact H
       clear H
       have H:=H1
       clear H1
       replace H:=Option.bind_eq_some_iff.mp H
       obtain ⟨t29,A800,H⟩:=H
       try dsimp only at H
       have A80:=a0_ A800
       clear A800
       by_cases c81 : t29 = true
       ·subst c81
        have H1 : ((impl_ContextChain.f t1 t11 t7).bind fun t30=>((impl_ContextChain.f t1 t4 t7).bind fun t33=>((laws_equalInts.f kj5 t30 t33).bind fun t36=>(some t36)))) = some r:=by rw [if_pos rfl] at H;exact H
        clear H
        have H:=H1
        clear H1
        replace H:=Option.bind_eq_some_iff.mp H
        obtain ⟨t30,A820,H⟩:=H
        try dsimp only at H
        have A82:=a0_ A820
        clear A820
        replace H:=Option.bind_eq_some_iff.mp H
        obtain ⟨t33,A830,H⟩:=H
        try dsimp only at H
        have A83:=a0_ A830
        clear A830
        replace H:=Option.bind_eq_some_iff.mp H
        obtain ⟨t36,A840,H⟩:=H
        replace H : (some t36) = some r:=H
        have A84:=a0_ A840
        clear A840
        obtain rfl:=Option.some.inj H
        have hnb85:=NB9_10.out
        have hnc85:=NB10_9.out
        have hnb86:=NB9_15.out
        have hnc86:=NB15_9.out
        have hnb87:=NB9_20.out
        have hnc87:=NB20_9.out
        have hcz88_0 : wc.cell? ⟨gb9,0,none⟩ = some (.slice Ao10 t1.length co10):=(blk_cell BK9.out 0).trans rfl
        have hfz88_0:=blk_frozen BK9.out 0
        have hnb89:=NB15_10.out
        have hnc89:=NB10_15.out
        have hnb90:=NB15_20.out
        have hnc90:=NB20_15.out
        have hcz91_0 : wc.cell? ⟨gb15,0,none⟩ = some (.slice Ao17 t11.length co17):=(blk_cell BK15.out 0).trans rfl
        have hfz91_0:=blk_frozen BK15.out 0
        try go_wp2_with (first | ((with_reducible refine gate_callee (f:=24) rfl ?_);refine goesL_ (some 65) rfl rfl Try.func24 (by kernel_rfl) rfl #[.agg #[.slice Ao10 t1.length co10],.agg #[.slice Ao17 t11.length co17],.int .i64 t7,.int .i64 t8] rfl lm_ ?_;(with_reducible refine (impl_SetCause.calls _ _ t1 _ _ t11 t7 t8 t23 true _ ?side1 ?side2 ?side3 ?side4 A76.out).mono ?_);(case side1=>exact cc_ (Kd.R_reads' Z10.out).2.2);(case side2=>exact (Kd.R_reads' Z10.out).2.1);(case side3=>exact cc_ (Kd.R_reads' Z16.out).2.2);(case side4=>exact (Kd.R_reads' Z16.out).2.1);rintro e w92 ⟨v24,rfl,ho0,hb⟩;refine ⟨_,rfl,?_⟩;have n0_:=rb_ Z10 hb;have n1_:=a0_ (Kd.R_elder' (rr_ Z11.out) (Kd.R_base ho0) hb);have n2_:=a0_ (Kd.R_elder' (rr_ Z16.out) (Kd.R_base ho0) hb);have n3_:=a0_ (Kd.R_elder' (rr_ Z21.out) (Kd.R_base ho0) hb);have n4_:=a0_ (Kd.R_lower (Kd.R_new' (Kd.R_new' (Kd.R_new' ho0 (Kd.R_lt (rr_ Z11.out))) (Kd.R_lt (rr_ Z16.out))) (Kd.R_lt (rr_ Z21.out))) (below_size hb_));have n5_:=kb_ BK9 hb;have n6_:=kb_ BK10 hb;have n7_:=kb_ BK15 hb;have n8_:=kb_ BK20 hb;have n9_:=a0_ (below_step hb_ hb);clear Z10 Z11;clear Z16 Z21;clear BK9 BK10;clear BK15 BK20 HB;have Z10:=n0_;have Z11:=n1_;have Z16:=n2_;have Z21:=n3_;have HO25:=n4_;have BK9:=n5_;have BK10:=n6_;have BK15:=n7_;have BK20:=n8_;have HB:=n9_;clear n0_ n1_ n2_ n3_ n4_ n5_ n6_ n7_ n8_ n9_;(try clear hb);(try clear ho0)) | ((with_reducible refine gate_dst (N:=11) rfl ?_);refine box_event ?hg (N:=11) ?hd (cs:=#[.slice none 0 0]) (t:=28) ?hr ?_;(case hd=>rfl);(case hg=>rfl);(case hr=>first | (go_simp;done) | (go_simp;rfl));intro gb27 hg w93 hbox hb;have n0_:=rb_ Z10 hb;have n1_:=rb_ Z11 hb;have n2_:=rb_ Z16 hb;have n3_:=rb_ Z21 hb;have n4_:=rb_ HO25 hb;have n5_:=kb_ BK9 hb;have n6_:=kb_ BK10 hb;have n7_:=kb_ BK15 hb;have n8_:=kb_ BK20 hb;have n9_:=a0_ (below_step hb_ hb);have n10_:=a0_ (hbox);have n11_:=a0_ ((by rw [hg];exact (below_size hb_) : w.heap.size ≤ gb27));have n12_:=a0_ ((by rw [hg];exact (below_size hb_) : w.heap.size ≤ gb27));have n13_:=a0_ ((by rw [hg];exact Nat.ne_of_lt (blk_lt (bb_ BK9.out)) : gb9 ≠ gb27));have n14_:=a0_ ((by rw [hg];exact Nat.ne_of_gt (blk_lt (bb_ BK9.out)) : gb27 ≠ gb9));have n15_:=a0_ ((by rw [hg];exact Nat.ne_of_lt (blk_lt (bb_ BK10.out)) : gb10 ≠ gb27));have n16_:=a0_ ((by rw [hg];exact Nat.ne_of_gt (blk_lt (bb_ BK10.out)) : gb27 ≠ gb10));have n17_:=a0_ ((by rw [hg];exact Nat.ne_of_lt (blk_lt (bb_ BK15.out)) : gb15 ≠ gb27));have n18_:=a0_ ((by rw [hg];exact Nat.ne_of_gt (blk_lt (bb_ BK15.out)) : gb27 ≠ gb15));have n19_:=a0_ ((by rw [hg];exact Nat.ne_of_lt (blk_lt (bb_ BK20.out)) : gb20 ≠ gb27));have n20_:=a0_ ((by rw [hg];exact Nat.ne_of_gt (blk_lt (bb_ BK20.out)) : gb27 ≠ gb20));clear Z10 Z11;clear Z16 Z21;clear HO25 BK9;clear BK10 BK15;clear BK20 HB;have Z10:=n0_;have Z11:=n1_;have Z16:=n2_;have Z21:=n3_;have HO25:=n4_;have BK9:=n5_;have BK10:=n6_;have BK15:=n7_;have BK20:=n8_;have HB:=n9_;have BK27:=n10_;have GW27:=n11_;have GE27:=n12_;have NB9_27:=n13_;have NB27_9:=n14_;have NB10_27:=n15_;have NB27_10:=n16_;have NB15_27:=n17_;have NB27_15:=n18_;have NB20_27:=n19_;have NB27_20:=n20_;clear n0_ n1_ n2_ n3_ n4_ n5_ n6_ n7_ n8_ n9_ n10_ n11_ n12_ n13_ n14_ n15_ n16_ n17_ n18_ n19_ n20_;clear hb hbox hg;obtain ⟨Ao94,co94,eo94⟩:=Kd.R_slice HO25.out;subst eo94;have hnb95:=NB27_9.out;have hnc95:=NB9_27.out;have hnb96:=NB27_10.out;have hnc96:=NB10_27.out;have hnb97:=NB27_15.out;have hnc97:=NB15_27.out;have hnb98:=NB27_20.out;have hnc98:=NB20_27.out;have hcz99_0 : w93.cell? ⟨gb27,0,none⟩ = some (.slice none 0 0):=(blk_cell BK27.out 0).trans rfl;have hfz99_0:=blk_frozen BK27.out 0))
        have n0_ : Aside0 (Kd.R k87 87 (w93.setCell ⟨gb27,0,none⟩ (.slice Ao94 t23.length co94)) w.heap.size (fun _=>True) (.slice Ao10 t1.length co10) t1):=⟨by (with_reducible repeat (first | apply Kd.R_alloc | apply Kd.R_drewN | apply Kd.R_drew));exact Kd.R_mono (Kd.R_far (p:=⟨gb27,0,none⟩) (Kd.R_types Z10.out BK27.out (by decide)) (fun _ hk=>hk.2) (.slice Ao94 t23.length co94)) (fun _ hk=>trivial)⟩
        have n1_ : Aside0 (Kd.R k43 43 (w93.setCell ⟨gb27,0,none⟩ (.slice Ao94 t23.length co94)) w.heap.size (fun k_=>some k_ ≠ (.slice Ao17 t11.length co17 : Value).ownBlock ∧ some k_ ≠ (.slice Ao25 t16.length co25 : Value).ownBlock ∧ some k_ ≠ (.slice Ao94 t23.length co94 : Value).ownBlock) (.slice Ao13 t4.length co13) t4):=⟨by (with_reducible repeat (first | apply Kd.R_alloc | apply Kd.R_drewN | apply Kd.R_drew));exact Kd.R_mono (Kd.R_far (p:=⟨gb27,0,none⟩) (Kd.R_types Z11.out BK27.out (by decide)) (fun _ hk=>hk.2) (.slice Ao94 t23.length co94)) (fun _ hk=>⟨hk.1.1.1,⟨hk.1.1.2,hk.1.2⟩⟩)⟩
        have n2_ : Aside0 (Kd.R k43 43 (w93.setCell ⟨gb27,0,none⟩ (.slice Ao94 t23.length co94)) w.heap.size (fun k_=>some k_ ≠ (.slice Ao13 t4.length co13 : Value).ownBlock ∧ some k_ ≠ (.slice Ao25 t16.length co25 : Value).ownBlock ∧ some k_ ≠ (.slice Ao94 t23.length co94 : Value).ownBlock) (.slice Ao17 t11.length co17) t11):=⟨by (with_reducible repeat (first | apply Kd.R_alloc | apply Kd.R_drewN | apply Kd.R_drew));exact Kd.R_mono (Kd.R_far (p:=⟨gb27,0,none⟩) (Kd.R_types Z16.out BK27.out (by decide)) (fun _ hk=>hk.2) (.slice Ao94 t23.length co94)) (fun _ hk=>⟨hk.1.1.1,⟨hk.1.1.2,hk.1.2⟩⟩)⟩
        have n3_ : Aside0 (Kd.R k43 43 (w93.setCell ⟨gb27,0,none⟩ (.slice Ao94 t23.length co94)) w.heap.size (fun k_=>some k_ ≠ (.slice Ao13 t4.length co13 : Value).ownBlock ∧ some k_ ≠ (.slice Ao17 t11.length co17 : Value).ownBlock ∧ some k_ ≠ (.slice Ao94 t23.length co94 : Value).ownBlock) (.slice Ao25 t16.length co25) t16):=⟨by (with_reducible repeat (first | apply Kd.R_alloc | apply Kd.R_drewN | apply Kd.R_drew));exact Kd.R_mono (Kd.R_far (p:=⟨gb27,0,none⟩) (Kd.R_types Z21.out BK27.out (by decide)) (fun _ hk=>hk.2) (.slice Ao94 t23.length co94)) (fun _ hk=>⟨hk.1.1.1,⟨hk.1.1.2,hk.1.2⟩⟩)⟩
        have n4_ : Aside0 (Kd.R k43 43 (w93.setCell ⟨gb27,0,none⟩ (.slice Ao94 t23.length co94)) w.heap.size (fun k_=>some k_ ≠ (.slice Ao13 t4.length co13 : Value).ownBlock ∧ some k_ ≠ (.slice Ao17 t11.length co17 : Value).ownBlock ∧ some k_ ≠ (.slice Ao25 t16.length co25 : Value).ownBlock) (.slice Ao94 t23.length co94) t23):=⟨by (with_reducible repeat (first | apply Kd.R_alloc | apply Kd.R_drewN | apply Kd.R_drew));exact Kd.R_mono (Kd.R_far (p:=⟨gb27,0,none⟩) (Kd.R_types HO25.out BK27.out (by decide)) (fun _ hk=>hk.2) (.slice Ao94 t23.length co94)) (fun _ hk=>⟨hk.1.1.1.2,⟨hk.1.1.2,hk.1.2⟩⟩)⟩
        have n5_ : Aside0 ((w93.setCell ⟨gb27,0,none⟩ (.slice Ao94 t23.length co94)).heap[gb9]? = some (.cells #[.slice Ao10 t1.length co10] 25 (0,0))):=⟨by (with_reducible repeat (first | refine blk_drewN ?_ _ | refine blk_drew ?_ | refine blk_alloc ?_ _));refine blk_far ?_ NB9_27.out _;(with_reducible repeat (first | refine blk_drewN ?_ _ | refine blk_drew ?_ | refine blk_alloc ?_ _));exact BK9.out⟩
        have n6_ : Aside0 ((w93.setCell ⟨gb27,0,none⟩ (.slice Ao94 t23.length co94)).heap[gb10]? = some (.cells #[.slice Ao13 t4.length co13] 28 (0,0))):=⟨by (with_reducible repeat (first | refine blk_drewN ?_ _ | refine blk_drew ?_ | refine blk_alloc ?_ _));refine blk_far ?_ NB10_27.out _;(with_reducible repeat (first | refine blk_drewN ?_ _ | refine blk_drew ?_ | refine blk_alloc ?_ _));exact BK10.out⟩
        have n7_ : Aside0 ((w93.setCell ⟨gb27,0,none⟩ (.slice Ao94 t23.length co94)).heap[gb15]? = some (.cells #[.slice Ao17 t11.length co17] 28 (0,0))):=⟨by (with_reducible repeat (first | refine blk_drewN ?_ _ | refine blk_drew ?_ | refine blk_alloc ?_ _));refine blk_far ?_ NB15_27.out _;(with_reducible repeat (first | refine blk_drewN ?_ _ | refine blk_drew ?_ | refine blk_alloc ?_ _));exact BK15.out⟩
        have n8_ : Aside0 ((w93.setCell ⟨gb27,0,none⟩ (.slice Ao94 t23.length co94)).heap[gb20]? = some (.cells #[.slice Ao25 t16.length co25] 28 (0,0))):=⟨by (with_reducible repeat (first | refine blk_drewN ?_ _ | refine blk_drew ?_ | refine blk_alloc ?_ _));refine blk_far ?_ NB20_27.out _;(with_reducible repeat (first | refine blk_drewN ?_ _ | refine blk_drew ?_ | refine blk_alloc ?_ _));exact BK20.out⟩
        have n9_ : Aside0 ((w93.setCell ⟨gb27,0,none⟩ (.slice Ao94 t23.length co94)).heap[gb27]? = some (.cells #[.slice Ao94 t23.length co94] 28 (0,0))):=⟨by (with_reducible repeat (first | refine blk_drewN ?_ _ | refine blk_drew ?_ | refine blk_alloc ?_ _));refine blk_put (cs:=#[.slice none 0 0]) ?_ 0 _ rfl;(with_reducible repeat (first | refine blk_drewN ?_ _ | refine blk_drew ?_ | refine blk_alloc ?_ _));exact BK27.out⟩
        have n10_ : Aside0 (Below w.heap.size w (w93.setCell ⟨gb27,0,none⟩ (.slice Ao94 t23.length co94))):=⟨hb_⟩
        (try clear Z10)
        (try clear Z11)
        (try clear Z16)
        (try clear Z21)
        (try clear HO25)
        (try clear BK9)
        (try clear BK10)
        (try clear BK15)
        (try clear BK20)
        (try clear BK27)
        (try clear HB)
        generalize (w93.setCell ⟨gb27,0,none⟩ (.slice Ao94 t23.length co94)) = w100 at n0_ n1_ n2_ n3_ n4_ n5_ n6_ n7_ n8_ n9_ n10_ ⊢
        have Z10:=n0_
        have Z11:=n1_
        have Z16:=n2_
        have Z21:=n3_
        have HO25:=n4_
        have BK9:=n5_
        have BK10:=n6_
        have BK15:=n7_
        have BK20:=n8_
        have BK27:=n9_
        have HB:=n10_
        clear n0_ n1_ n2_ n3_ n4_ n5_ n6_ n7_ n8_ n9_ n10_
        have n0_:=a0_ (Kd.R_drew Z10.out)
        have n1_:=a0_ (Kd.R_drew Z11.out)
        have n2_:=a0_ (Kd.R_drew Z16.out)
        have n3_:=a0_ (Kd.R_drew Z21.out)
        have n4_:=a0_ (Kd.R_drew HO25.out)
        have n5_:=a0_ (blk_drew BK9.out)
        have n6_:=a0_ (blk_drew BK10.out)
        have n7_:=a0_ (blk_drew BK15.out)
        have n8_:=a0_ (blk_drew BK20.out)
        have n9_:=a0_ (blk_drew BK27.out)
        have n10_:=a0_ (below_drew1 HB.out)
        clear Z10
        clear Z11
        clear Z16
        clear Z21
        clear HO25
        clear BK9
        clear BK10
        clear BK15
        clear BK20
        clear BK27
        clear HB
        have Z10:=n0_
        have Z11:=n1_
        have Z16:=n2_
        have Z21:=n3_
        have HO25:=n4_
        have BK9:=n5_
        have BK10:=n6_
        have BK15:=n7_
        have BK20:=n8_
        have BK27:=n9_
        have HB:=n10_
        clear n0_ n1_ n2_ n3_ n4_ n5_ n6_ n7_ n8_ n9_ n10_
        refine start_ (n:=26) (S:=fun w'=>w'.cell? ⟨gb9,0,none⟩ = some (.slice Ao10 t1.length co10) ∧ w'.cell? ⟨gb15,0,none⟩ = some (.slice Ao17 t11.length co17) ∧ w'.cell? ⟨gb27,0,none⟩ = some (.slice Ao94 t23.length co94) ∧ w'.cell? ⟨gb10,0,none⟩ = some (.slice Ao13 t4.length co13)) (ds:=[]) #[false,false,false,false,false,false,false,false,false,false,false,false,false,false,false,false,false,false,false,false,false,false,false,false,false,false] (by kernel_rfl) rfl rfl ⟨(blk_cell BK9.out 0).trans rfl,(blk_cell BK15.out 0).trans rfl,(blk_cell BK27.out 0).trans rfl,(blk_cell BK10.out 0).trans rfl⟩ (fun hHeld=>?_);refine with_tabW laws_FnSetCause.tab9 laws_FnSetCause.bits9 (fun HT_ HW_=>?_)
        generalize w100.drew = w101 at Z10 Z11 Z16 Z21 HO25 BK9 BK10 BK15 BK20 BK27 HB hHeld ⊢
        refine pure_ (i:=2) (N:=some 70) (v:=?_) (a':=?_) #[false,false,true,false,false,false,false,false,false,false,false,false,false,false,false,false,false,false,false,false,false,false,false,false,false,false] rfl rfl (any_of HT_.out (by kernel_rfl)) (fun _ _ _ h=>h) (Or.inl ⟨by rfl,?_⟩) ?_ ?_
        rotate_left
        ·intro w'
         go_simp
         with_reducible rfl
        rotate_left
        ·simp only [Act.put,s1_,s2_,s3_,i64_w,i32_w]
         rfl
        refine pure_ (i:=4) (N:=some 72) (v:=?_) (a':=?_) #[false,false,true,false,true,false,false,false,false,false,false,false,false,false,false,false,false,false,false,false,false,false,false,false,false,false] rfl rfl (any_of HT_.out (by kernel_rfl)) (fun _ _ _ h=>h) (Or.inl ⟨by rfl,?_⟩) ?_ ?_
        rotate_left
        ·intro w'
         go_simp
         with_reducible rfl
        rotate_left
        ·simp only [Act.put,s1_,s2_,s3_,i64_w,i32_w]
         rfl
        refine take_ (i:=0) (N:=some 68) (v:=?_) (a':=?_) #[true,false,true,false,true,false,false,false,false,false,false,false,false,false,false,false,false,false,false,false,false,false,false,false,false,false] rfl rfl (take_ofW HT_.out HW_.out (by kernel_rfl)) (fun _ _ _ h=>h) (Or.inl ⟨by rfl,?_⟩) hHeld ?_ ?_
        rotate_left
        ·rintro w' ⟨s0,s1,s2,s3⟩
         go_simp
         with_reducible rfl
        rotate_left
        ·simp only [Act.put,s1_,s2_,s3_,i64_w,i32_w]
         rfl
        refine take_ (i:=1) (N:=some 69) (v:=?_) (a':=?_) #[true,true,true,false,true,false,false,false,false,false,false,false,false,false,false,false,false,false,false,false,false,false,false,false,false,false] rfl rfl (take_ofW HT_.out HW_.out (by kernel_rfl)) (fun _ _ _ h=>h) (Or.inl ⟨by rfl,?_⟩) hHeld ?_ ?_
        rotate_left
        ·rintro w' ⟨s0,s1,s2,s3⟩
         go_simp
         with_reducible rfl
        rotate_left
        ·simp only [Act.put,s1_,s2_,s3_,i64_w,i32_w]
         rfl
        refine one_ (i:=3) (N:=some 71) #[true,true,true,true,true,false,false,false,false,false,false,false,false,false,false,false,false,false,false,false,false,false,false,false,false,false] rfl rfl (one_of HT_.out (by kernel_rfl)) (by decide) (fun K hK=>?_)
        refine goes_ Try.func14 (by kernel_rfl) rfl #[.agg #[.slice Ao10 t1.length co10],.agg #[.slice Ao17 t11.length co17],.int .i64 t7] (by rfl) rfl rfl lm_ ?_
        with_reducible refine (impl_ShownNext.calls _ _ t1 _ _ t11 t7 t28 _ ?side1 ?side2 ?side3 ?side4 A77.out).mono ?_
        (case side1=>exact cc_ (Kd.R_reads' Z10.out).2.2)
        (case side2=>exact (Kd.R_reads' Z10.out).2.1)
        (case side3=>exact cc_ (Kd.R_reads' Z16.out).2.2)
        (case side4=>exact (Kd.R_reads' Z16.out).2.1)
        rintro e w102 ⟨rfl,hb⟩
        refine ⟨_,rfl,?_⟩
        have n0_:=rb_ Z10 hb
        have n1_:=rb_ Z11 hb
        have n2_:=rb_ Z16 hb
        have n3_:=rb_ Z21 hb
        have n4_:=rb_ HO25 hb
        have n5_:=kb_ BK9 hb
        have n6_:=kb_ BK10 hb
        have n7_:=kb_ BK15 hb
        have n8_:=kb_ BK20 hb
        have n9_:=kb_ BK27 hb
        have n10_:=a0_ (below_step hb_ hb)
        clear Z10
        clear Z11
        clear Z16
        clear Z21
        clear HO25
        clear BK9
        clear BK10
        clear BK15
        clear BK20
        clear BK27
        clear HB
        have Z10:=n0_
        have Z11:=n1_
        have Z16:=n2_
        have Z21:=n3_
        have HO25:=n4_
        have BK9:=n5_
        have BK10:=n6_
        have BK15:=n7_
        have BK20:=n8_
        have BK27:=n9_
        have HB:=n10_
        clear n0_ n1_ n2_ n3_ n4_ n5_ n6_ n7_ n8_ n9_ n10_
        (try clear hb)
        (try clear hb2)
        (try clear hk)
        (try clear hi)
        refine hK.out _ _ ⟨(blk_cell BK9.out 0).trans rfl,(blk_cell BK15.out 0).trans rfl,(blk_cell BK27.out 0).trans rfl,(blk_cell BK10.out 0).trans rfl⟩ (fun hHeld=>?_)
        clear hK K
        refine norm_ (a':=?_) ?_ ?_
        rotate_left
        ·show Act.put _ (some 71) _ = _
         simp only [Act.put,s1_,s2_,s3_,i64_w,i32_w]
         rfl
        refine pure_ (i:=5) (N:=some 73) (v:=?_) (a':=?_) #[true,true,true,true,true,true,false,false,false,false,false,false,false,false,false,false,false,false,false,false,false,false,false,false,false,false] rfl rfl (any_of HT_.out (by kernel_rfl)) (fun _ _ _ h=>h) (Or.inl ⟨by rfl,?_⟩) ?_ ?_
        rotate_left
        ·intro w'
         go_simp
         with_reducible rfl
        rotate_left
        ·simp only [Act.put,s1_,s2_,s3_,i64_w,i32_w]
         rfl
        refine pure_ (i:=6) (N:=some 74) (v:=?_) (a':=?_) #[true,true,true,true,true,true,true,false,false,false,false,false,false,false,false,false,false,false,false,false,false,false,false,false,false,false] rfl rfl (any_of HT_.out (by kernel_rfl)) (fun _ _ _ h=>h) (Or.inl ⟨by rfl,?_⟩) ?_ ?_
        rotate_left
        ·intro w'
         go_simp
         with_reducible rfl
        rotate_left
        ·simp only [Act.put,s1_,s2_,s3_,i64_w,i32_w]
         rfl
        refine pure_ (i:=7) (N:=some 75) (v:=?_) (a':=?_) #[true,true,true,true,true,true,true,true,false,false,false,false,false,false,false,false,false,false,false,false,false,false,false,false,false,false] rfl rfl (any_of HT_.out (by kernel_rfl)) (fun _ _ _ h=>h) (Or.inl ⟨by rfl,?_⟩) ?_ ?_
        rotate_left
        ·intro w'
         go_simp
         with_reducible rfl
        rotate_left
        ·simp only [Act.put,s1_,s2_,s3_,i64_w,i32_w]
         rfl
        refine pure_ (i:=8) (N:=some 76) (v:=?_) (a':=?_) #[true,true,true,true,true,true,true,true,true,false,false,false,false,false,false,false,false,false,false,false,false,false,false,false,false,false] rfl rfl (any_of HT_.out (by kernel_rfl)) (fun _ _ _ h=>h) (Or.inl ⟨by rfl,?_⟩) ?_ ?_
        rotate_left
        ·intro w'
         go_simp
         with_reducible rfl
        rotate_left
        ·simp only [Act.put,s1_,s2_,s3_,i64_w,i32_w]
         rfl
        refine pure_ (i:=9) (N:=some 77) (v:=?_) (a':=?_) #[true,true,true,true,true,true,true,true,true,true,false,false,false,false,false,false,false,false,false,false,false,false,false,false,false,false] rfl rfl (any_of HT_.out (by kernel_rfl)) (fun _ _ _ h=>h) (Or.inl ⟨by rfl,?_⟩) ?_ ?_
        rotate_left
        ·intro w'
         go_simp
         with_reducible rfl
        rotate_left
        ·simp only [Act.put,s1_,s2_,s3_,i64_w,i32_w]
         rfl
        refine take_ (i:=10) (N:=some 78) (v:=?_) (a':=?_) #[true,true,true,true,true,true,true,true,true,true,true,false,false,false,false,false,false,false,false,false,false,false,false,false,false,false] rfl rfl (take_ofW HT_.out HW_.out (by kernel_rfl)) (fun _ _ _ h=>h) (Or.inl ⟨by rfl,?_⟩) hHeld ?_ ?_
        rotate_left
        ·rintro w' ⟨s0,s1,s2,s3⟩
         go_simp
         with_reducible rfl
        rotate_left
        ·simp only [Act.put,s1_,s2_,s3_,i64_w,i32_w]
         rfl
        refine take_ (i:=11) (N:=some 79) (v:=?_) (a':=?_) #[true,true,true,true,true,true,true,true,true,true,true,true,false,false,false,false,false,false,false,false,false,false,false,false,false,false] rfl rfl (take_ofW HT_.out HW_.out (by kernel_rfl)) (fun _ _ _ h=>h) (Or.inl ⟨by rfl,?_⟩) hHeld ?_ ?_
        rotate_left
        ·rintro w' ⟨s0,s1,s2,s3⟩
         go_simp
         with_reducible rfl
        rotate_left
        ·simp only [Act.put,s1_,s2_,s3_,i64_w,i32_w]
         rfl
        refine one_ (i:=12) (N:=some 80) #[true,true,true,true,true,true,true,true,true,true,true,true,true,false,false,false,false,false,false,false,false,false,false,false,false,false] rfl rfl (one_of HT_.out (by kernel_rfl)) (by decide) (fun K hK=>?_)
        refine goes_ Try.func19 (by kernel_rfl) rfl #[.agg #[.slice Ao94 t23.length co94],.agg #[.slice Ao17 t11.length co17]] (by rfl) rfl rfl lm_ ?_
        with_reducible refine (laws_equalHeap.calls kj5 _ _ t23 _ _ t11 true _ ?side1 ?side2 ?side3 ?side4 A80.out).mono ?_
        (case side1=>exact cc_ (Kd.R_reads' HO25.out).2.2)
        (case side2=>exact (Kd.R_reads' HO25.out).2.1)
        (case side3=>exact cc_ (Kd.R_reads' Z16.out).2.2)
        (case side4=>exact (Kd.R_reads' Z16.out).2.1)
        rintro e w103 ⟨rfl,hb⟩
        refine ⟨_,rfl,?_⟩
        have n0_:=rb_ Z10 hb
        have n1_:=rb_ Z11 hb
        have n2_:=rb_ Z16 hb
        have n3_:=rb_ Z21 hb
        have n4_:=rb_ HO25 hb
        have n5_:=kb_ BK9 hb
        have n6_:=kb_ BK10 hb
        have n7_:=kb_ BK15 hb
        have n8_:=kb_ BK20 hb
        have n9_:=kb_ BK27 hb
        have n10_:=a0_ (below_step hb_ hb)
        clear Z10
        clear Z11
        clear Z16
        clear Z21
        clear HO25
        clear BK9
        clear BK10
        clear BK15
        clear BK20
        clear BK27
        clear HB
        have Z10:=n0_
        have Z11:=n1_
        have Z16:=n2_
        have Z21:=n3_
        have HO25:=n4_
        have BK9:=n5_
        have BK10:=n6_
        have BK15:=n7_
        have BK20:=n8_
        have BK27:=n9_
        have HB:=n10_
        clear n0_ n1_ n2_ n3_ n4_ n5_ n6_ n7_ n8_ n9_ n10_
        (try clear hb)
        (try clear hb2)
        (try clear hk)
        (try clear hi)
        refine hK.out _ _ ⟨(blk_cell BK9.out 0).trans rfl,(blk_cell BK15.out 0).trans rfl,(blk_cell BK27.out 0).trans rfl,(blk_cell BK10.out 0).trans rfl⟩ (fun hHeld=>?_)
        clear hK K
        refine norm_ (a':=?_) ?_ ?_
        rotate_left
        ·show Act.put _ (some 80) _ = _
         simp only [Act.put,s1_,s2_,s3_,i64_w,i32_w]
         rfl
        refine pure_ (i:=13) (N:=some 81) (v:=?_) (a':=?_) #[true,true,true,true,true,true,true,true,true,true,true,true,true,true,false,false,false,false,false,false,false,false,false,false,false,false] rfl rfl (any_of HT_.out (by kernel_rfl)) (fun _ _ _ h=>h) (Or.inl ⟨by rfl,?_⟩) ?_ ?_
        rotate_left
        ·intro w'
         go_simp
         with_reducible rfl
        rotate_left
        ·simp only [Act.put,s1_,s2_,s3_,i64_w,i32_w]
         rfl
        refine pure_ (i:=14) (N:=some 82) (v:=?_) (a':=?_) #[true,true,true,true,true,true,true,true,true,true,true,true,true,true,true,false,false,false,false,false,false,false,false,false,false,false] rfl rfl (any_of HT_.out (by kernel_rfl)) (fun _ _ _ h=>h) (Or.inl ⟨by rfl,?_⟩) ?_ ?_
        rotate_left
        ·intro w'
         go_simp
         with_reducible rfl
        rotate_left
        ·simp only [Act.put,s1_,s2_,s3_,i64_w,i32_w]
         rfl
        refine pure_ (i:=17) (N:=some 85) (v:=?_) (a':=?_) #[true,true,true,true,true,true,true,true,true,true,true,true,true,true,true,false,false,true,false,false,false,false,false,false,false,false] rfl rfl (any_of HT_.out (by kernel_rfl)) (fun _ _ _ h=>h) (Or.inl ⟨by rfl,?_⟩) ?_ ?_
        rotate_left
        ·intro w'
         go_simp
         with_reducible rfl
        rotate_left
        ·simp only [Act.put,s1_,s2_,s3_,i64_w,i32_w]
         rfl
        refine pure_ (i:=21) (N:=some 89) (v:=?_) (a':=?_) #[true,true,true,true,true,true,true,true,true,true,true,true,true,true,true,false,false,true,false,false,false,true,false,false,false,false] rfl rfl (any_of HT_.out (by kernel_rfl)) (fun _ _ _ h=>h) (Or.inl ⟨by rfl,?_⟩) ?_ ?_
        rotate_left
        ·intro w'
         go_simp
         with_reducible rfl
        rotate_left
        ·simp only [Act.put,s1_,s2_,s3_,i64_w,i32_w]
         rfl
        refine take_ (i:=15) (N:=some 83) (v:=?_) (a':=?_) #[true,true,true,true,true,true,true,true,true,true,true,true,true,true,true,true,false,true,false,false,false,true,false,false,false,false] rfl rfl (take_ofW HT_.out HW_.out (by kernel_rfl)) (fun _ _ _ h=>h) (Or.inl ⟨by rfl,?_⟩) hHeld ?_ ?_
        rotate_left
        ·rintro w' ⟨s0,s1,s2,s3⟩
         go_simp
         with_reducible rfl
        rotate_left
        ·simp only [Act.put,s1_,s2_,s3_,i64_w,i32_w]
         rfl
        refine take_ (i:=16) (N:=some 84) (v:=?_) (a':=?_) #[true,true,true,true,true,true,true,true,true,true,true,true,true,true,true,true,true,true,false,false,false,true,false,false,false,false] rfl rfl (take_ofW HT_.out HW_.out (by kernel_rfl)) (fun _ _ _ h=>h) (Or.inl ⟨by rfl,?_⟩) hHeld ?_ ?_
        rotate_left
        ·rintro w' ⟨s0,s1,s2,s3⟩
         go_simp
         with_reducible rfl
        rotate_left
        ·simp only [Act.put,s1_,s2_,s3_,i64_w,i32_w]
         rfl
        refine take_ (i:=19) (N:=some 87) (v:=?_) (a':=?_) #[true,true,true,true,true,true,true,true,true,true,true,true,true,true,true,true,true,true,false,true,false,true,false,false,false,false] rfl rfl (take_ofW HT_.out HW_.out (by kernel_rfl)) (fun _ _ _ h=>h) (Or.inl ⟨by rfl,?_⟩) hHeld ?_ ?_
        rotate_left
        ·rintro w' ⟨s0,s1,s2,s3⟩
         go_simp
         with_reducible rfl
        rotate_left
        ·simp only [Act.put,s1_,s2_,s3_,i64_w,i32_w]
         rfl
        refine take_ (i:=20) (N:=some 88) (v:=?_) (a':=?_) #[true,true,true,true,true,true,true,true,true,true,true,true,true,true,true,true,true,true,false,true,true,true,false,false,false,false] rfl rfl (take_ofW HT_.out HW_.out (by kernel_rfl)) (fun _ _ _ h=>h) (Or.inl ⟨by rfl,?_⟩) hHeld ?_ ?_
        rotate_left
        ·rintro w' ⟨s0,s1,s2,s3⟩
         go_simp
         with_reducible rfl
        rotate_left
        ·simp only [Act.put,s1_,s2_,s3_,i64_w,i32_w]
         rfl
        refine one_ (i:=18) (N:=some 86) #[true,true,true,true,true,true,true,true,true,true,true,true,true,true,true,true,true,true,true,true,true,true,false,false,false,false] rfl rfl (one_of HT_.out (by kernel_rfl)) (by decide) (fun K hK=>?_)
        refine goes_ Try.func26 (by kernel_rfl) rfl #[.agg #[.slice Ao10 t1.length co10],.agg #[.slice Ao17 t11.length co17],.int .i64 t7] (by rfl) rfl rfl lm_ ?_
        with_reducible refine (impl_ContextChain.calls _ _ t1 _ _ t11 t7 t30 _ ?side1 ?side2 ?side3 ?side4 A82.out).mono ?_
        (case side1=>exact cc_ (Kd.R_reads' Z10.out).2.2)
        (case side2=>exact (Kd.R_reads' Z10.out).2.1)
        (case side3=>exact cc_ (Kd.R_reads' Z16.out).2.2)
        (case side4=>exact (Kd.R_reads' Z16.out).2.1)
        rintro e w104 ⟨v31,rfl,ho0,hb⟩
        refine ⟨_,rfl,?_⟩
        have n0_:=rb_ Z10 hb
        have n1_:=rb_ Z11 hb
        have n2_:=rb_ Z16 hb
        have n3_:=rb_ Z21 hb
        have n4_:=rb_ HO25 hb
        have n5_:=a0_ (Kd.R_lower ho0 (below_size hb_))
        have n6_:=kb_ BK9 hb
        have n7_:=kb_ BK10 hb
        have n8_:=kb_ BK15 hb
        have n9_:=kb_ BK20 hb
        have n10_:=kb_ BK27 hb
        have n11_:=a0_ (below_step hb_ hb)
        clear Z10
        clear Z11
        clear Z16
        clear Z21
        clear HO25
        clear BK9
        clear BK10
        clear BK15
        clear BK20
        clear BK27
        clear HB
        have Z10:=n0_
        have Z11:=n1_
        have Z16:=n2_
        have Z21:=n3_
        have HO25:=n4_
        have HO32:=n5_
        have BK9:=n6_
        have BK10:=n7_
        have BK15:=n8_
        have BK20:=n9_
        have BK27:=n10_
        have HB:=n11_
        clear n0_ n1_ n2_ n3_ n4_ n5_ n6_ n7_ n8_ n9_ n10_ n11_
        (try clear hb)
        (try clear hb2)
        (try clear hk)
        (try clear hi)
        (try clear ho0)
        refine hK.out _ _ ⟨(blk_cell BK9.out 0).trans rfl,(blk_cell BK15.out 0).trans rfl,(blk_cell BK27.out 0).trans rfl,(blk_cell BK10.out 0).trans rfl⟩ (fun hHeld=>?_)
        clear hK K
        refine norm_ (a':=?_) ?_ ?_
        rotate_left
        ·show Act.put _ (some 86) _ = _
         simp only [Act.put,s1_,s2_,s3_,i64_w,i32_w]
         rfl
        refine one_ (i:=22) (N:=some 90) #[true,true,true,true,true,true,true,true,true,true,true,true,true,true,true,true,true,true,true,true,true,true,true,false,false,false] rfl rfl (one_of HT_.out (by kernel_rfl)) (by decide) (fun K hK=>?_)
        refine goes_ Try.func26 (by kernel_rfl) rfl #[.agg #[.slice Ao10 t1.length co10],.agg #[.slice Ao13 t4.length co13],.int .i64 t7] (by rfl) rfl rfl lm_ ?_
        with_reducible refine (impl_ContextChain.calls _ _ t1 _ _ t4 t7 t33 _ ?side1 ?side2 ?side3 ?side4 A83.out).mono ?_
        (case side1=>exact cc_ (Kd.R_reads' Z10.out).2.2)
        (case side2=>exact (Kd.R_reads' Z10.out).2.1)
        (case side3=>exact cc_ (Kd.R_reads' Z11.out).2.2)
        (case side4=>exact (Kd.R_reads' Z11.out).2.1)
        rintro e w105 ⟨v34,rfl,ho0,hb⟩
        refine ⟨_,rfl,?_⟩
        have n0_:=rb_ Z10 hb
        have n1_:=rb_ Z11 hb
        have n2_:=rb_ Z16 hb
        have n3_:=rb_ Z21 hb
        have n4_:=rb_ HO25 hb
        have n5_:=a0_ (Kd.R_elder' (rr_ HO32.out) (Kd.R_base ho0) hb)
        have n6_:=a0_ (Kd.R_lower (Kd.R_new' ho0 (Kd.R_lt (rr_ HO32.out))) (below_size hb_))
        have n7_:=kb_ BK9 hb
        have n8_:=kb_ BK10 hb
        have n9_:=kb_ BK15 hb
        have n10_:=kb_ BK20 hb
        have n11_:=kb_ BK27 hb
        have n12_:=a0_ (below_step hb_ hb)
        clear Z10
        clear Z11
        clear Z16
        clear Z21
        clear HO25
        clear HO32
        clear BK9
        clear BK10
        clear BK15
        clear BK20
        clear BK27
        clear HB
        have Z10:=n0_
        have Z11:=n1_
        have Z16:=n2_
        have Z21:=n3_
        have HO25:=n4_
        have HO32:=n5_
        have HO35:=n6_
        have BK9:=n7_
        have BK10:=n8_
        have BK15:=n9_
        have BK20:=n10_
        have BK27:=n11_
        have HB:=n12_
        clear n0_ n1_ n2_ n3_ n4_ n5_ n6_ n7_ n8_ n9_ n10_ n11_ n12_
        (try clear hb)
        (try clear hb2)
        (try clear hk)
        (try clear hi)
        (try clear ho0)
        obtain ⟨Ao106,co106,eo106⟩:=Kd.R_slice HO32.out
        (first | subst eo106 | (injection eo106 with f1_ f2_ f3_;have f4_:=f1_.symm;have f5_:=f3_.symm;clear f1_ f2_ f3_;subst f4_;subst f5_))
        obtain ⟨Ao107,co107,eo107⟩:=Kd.R_slice HO35.out
        (first | subst eo107 | (injection eo107 with f1_ f2_ f3_;have f4_:=f1_.symm;have f5_:=f3_.symm;clear f1_ f2_ f3_;subst f4_;subst f5_))
        refine hK.out _ _ ⟨(blk_cell BK9.out 0).trans rfl,(blk_cell BK15.out 0).trans rfl,(blk_cell BK27.out 0).trans rfl,(blk_cell BK10.out 0).trans rfl⟩ (fun hHeld=>?_)
        clear hK K
        refine norm_ (a':=?_) ?_ ?_
        rotate_left
        ·show Act.put _ (some 90) _ = _
         simp only [Act.put,s1_,s2_,s3_,i64_w,i32_w]
         rfl
        refine one_ (i:=23) (N:=some 91) #[true,true,true,true,true,true,true,true,true,true,true,true,true,true,true,true,true,true,true,true,true,true,true,true,false,false] rfl rfl (one_of HT_.out (by kernel_rfl)) (by decide) (fun K hK=>?_)
        refine goes_ Try.func12 (by kernel_rfl) rfl #[.slice Ao106 t30.length co106,.slice Ao107 t33.length co107] (by rfl) rfl rfl lm_ ?_
        with_reducible refine (laws_equalInts.calls kj5 _ _ t30 _ _ t33 t36 _ ?side1 ?side2 ?side3 ?side4 A84.out).mono ?_
        (case side1=>exact cc_ (Kd.R_reads' HO32.out).2.2)
        (case side2=>exact (Kd.R_reads' HO32.out).2.1)
        (case side3=>exact cc_ (Kd.R_reads' HO35.out).2.2)
        (case side4=>exact (Kd.R_reads' HO35.out).2.1)
        rintro e w' ⟨rfl,⟨nd,rfl⟩⟩
        refine ⟨_,rfl,?_⟩
        refine hK.out _ _ ⟨(blk_cell BK9.out 0).trans rfl,(blk_cell BK15.out 0).trans rfl,(blk_cell BK27.out 0).trans rfl,(blk_cell BK10.out 0).trans rfl⟩ (fun hHeld=>?_)
        clear hK K
        refine norm_ (a':=?_) ?_ ?_
        rotate_left
        ·show Act.put _ (some 91) _ = _
         simp only [Act.put,s1_,s2_,s3_,i64_w,i32_w]
         rfl
        refine pure_ (i:=24) (N:=some 92) (v:=?_) (a':=?_) #[true,true,true,true,true,true,true,true,true,true,true,true,true,true,true,true,true,true,true,true,true,true,true,true,true,false] rfl rfl (any_of HT_.out (by kernel_rfl)) (fun _ _ _ h=>h) (Or.inl ⟨by rfl,?_⟩) ?_ ?_
        rotate_left
        ·intro w'
         go_simp
         with_reducible rfl
        rotate_left
        ·simp only [Act.put,s1_,s2_,s3_,i64_w,i32_w]
         rfl
        refine pure_ (i:=25) (N:=some 2) (v:=?_) (a':=?_) #[true,true,true,true,true,true,true,true,true,true,true,true,true,true,true,true,true,true,true,true,true,true,true,true,true,true] rfl rfl (any_of HT_.out (by kernel_rfl)) (fun _ _ _ h=>h) (Or.inl ⟨by rfl,?_⟩) ?_ ?_
        rotate_left
        ·intro w'
         go_simp
         with_reducible rfl
        rotate_left
        ·simp only [Act.put,s1_,s2_,s3_,i64_w,i32_w]
         rfl
        refine done_ (done_of HT_.out (by kernel_rfl)) ?_
        try go_wp2
        go_ret
        exact ⟨by first | rfl | (simp [errW_none,errW_some] <;> rfl) | (simp [*,errW_none,errW_some] <;> rfl),hb_⟩
       ·replace c81:=Bool.eq_false_iff.mpr c81
        subst c81
        have H1 : (some false) = some r:=by rw [if_neg (show ¬ (false = true) by decide)] at H;exact H
        clear H
        have H:=H1
        clear H1
        obtain rfl:=Option.some.inj H
        have hnb108:=NB9_10.out
        have hnc108:=NB10_9.out
        have hnb109:=NB9_15.out
        have hnc109:=NB15_9.out
        have hnb110:=NB9_20.out
        have hnc110:=NB20_9.out
        have hcz111_0 : wc.cell? ⟨gb9,0,none⟩ = some (.slice Ao10 t1.length co10):=(blk_cell BK9.out 0).trans rfl
        have hfz111_0:=blk_frozen BK9.out 0
        have hnb112:=NB15_10.out
        have hnc112:=NB10_15.out
        have hnb113:=NB15_20.out
        have hnc113:=NB20_15.out
        have hcz114_0 : wc.cell? ⟨gb15,0,none⟩ = some (.slice Ao17 t11.length co17):=(blk_cell BK15.out 0).trans rfl
        have hfz114_0:=blk_frozen BK15.out 0
        try go_wp2_with (first | ((with_reducible refine gate_callee (f:=24) rfl ?_);refine goesL_ (some 65) rfl rfl Try.func24 (by kernel_rfl) rfl #[.agg #[.slice Ao10 t1.length co10],.agg #[.slice Ao17 t11.length co17],.int .i64 t7,.int .i64 t8] rfl lm_ ?_;(with_reducible refine (impl_SetCause.calls _ _ t1 _ _ t11 t7 t8 t23 true _ ?side1 ?side2 ?side3 ?side4 A76.out).mono ?_);(case side1=>exact cc_ (Kd.R_reads' Z10.out).2.2);(case side2=>exact (Kd.R_reads' Z10.out).2.1);(case side3=>exact cc_ (Kd.R_reads' Z16.out).2.2);(case side4=>exact (Kd.R_reads' Z16.out).2.1);rintro e w115 ⟨v24,rfl,ho0,hb⟩;refine ⟨_,rfl,?_⟩;have n0_:=rb_ Z10 hb;have n1_:=a0_ (Kd.R_elder' (rr_ Z11.out) (Kd.R_base ho0) hb);have n2_:=a0_ (Kd.R_elder' (rr_ Z16.out) (Kd.R_base ho0) hb);have n3_:=a0_ (Kd.R_elder' (rr_ Z21.out) (Kd.R_base ho0) hb);have n4_:=a0_ (Kd.R_lower (Kd.R_new' (Kd.R_new' (Kd.R_new' ho0 (Kd.R_lt (rr_ Z11.out))) (Kd.R_lt (rr_ Z16.out))) (Kd.R_lt (rr_ Z21.out))) (below_size hb_));have n5_:=kb_ BK9 hb;have n6_:=kb_ BK10 hb;have n7_:=kb_ BK15 hb;have n8_:=kb_ BK20 hb;have n9_:=a0_ (below_step hb_ hb);clear Z10 Z11;clear Z16 Z21;clear BK9 BK10;clear BK15 BK20 HB;have Z10:=n0_;have Z11:=n1_;have Z16:=n2_;have Z21:=n3_;have HO25:=n4_;have BK9:=n5_;have BK10:=n6_;have BK15:=n7_;have BK20:=n8_;have HB:=n9_;clear n0_ n1_ n2_ n3_ n4_ n5_ n6_ n7_ n8_ n9_;(try clear hb);(try clear ho0)) | ((with_reducible refine gate_dst (N:=11) rfl ?_);refine box_event ?hg (N:=11) ?hd (cs:=#[.slice none 0 0]) (t:=28) ?hr ?_;(case hd=>rfl);(case hg=>rfl);(case hr=>first | (go_simp;done) | (go_simp;rfl));intro gb27 hg w116 hbox hb;have n0_:=rb_ Z10 hb;have n1_:=rb_ Z11 hb;have n2_:=rb_ Z16 hb;have n3_:=rb_ Z21 hb;have n4_:=rb_ HO25 hb;have n5_:=kb_ BK9 hb;have n6_:=kb_ BK10 hb;have n7_:=kb_ BK15 hb;have n8_:=kb_ BK20 hb;have n9_:=a0_ (below_step hb_ hb);have n10_:=a0_ (hbox);have n11_:=a0_ ((by rw [hg];exact (below_size hb_) : w.heap.size ≤ gb27));have n12_:=a0_ ((by rw [hg];exact (below_size hb_) : w.heap.size ≤ gb27));have n13_:=a0_ ((by rw [hg];exact Nat.ne_of_lt (blk_lt (bb_ BK9.out)) : gb9 ≠ gb27));have n14_:=a0_ ((by rw [hg];exact Nat.ne_of_gt (blk_lt (bb_ BK9.out)) : gb27 ≠ gb9));have n15_:=a0_ ((by rw [hg];exact Nat.ne_of_lt (blk_lt (bb_ BK10.out)) : gb10 ≠ gb27));have n16_:=a0_ ((by rw [hg];exact Nat.ne_of_gt (blk_lt (bb_ BK10.out)) : gb27 ≠ gb10));have n17_:=a0_ ((by rw [hg];exact Nat.ne_of_lt (blk_lt (bb_ BK15.out)) : gb15 ≠ gb27));have n18_:=a0_ ((by rw [hg];exact Nat.ne_of_gt (blk_lt (bb_ BK15.out)) : gb27 ≠ gb15));have n19_:=a0_ ((by rw [hg];exact Nat.ne_of_lt (blk_lt (bb_ BK20.out)) : gb20 ≠ gb27));have n20_:=a0_ ((by rw [hg];exact Nat.ne_of_gt (blk_lt (bb_ BK20.out)) : gb27 ≠ gb20));clear Z10 Z11;clear Z16 Z21;clear HO25 BK9;clear BK10 BK15;clear BK20 HB;have Z10:=n0_;have Z11:=n1_;have Z16:=n2_;have Z21:=n3_;have HO25:=n4_;have BK9:=n5_;have BK10:=n6_;have BK15:=n7_;have BK20:=n8_;have HB:=n9_;have BK27:=n10_;have GW27:=n11_;have GE27:=n12_;have NB9_27:=n13_;have NB27_9:=n14_;have NB10_27:=n15_;have NB27_10:=n16_;have NB15_27:=n17_;have NB27_15:=n18_;have NB20_27:=n19_;have NB27_20:=n20_;clear n0_ n1_ n2_ n3_ n4_ n5_ n6_ n7_ n8_ n9_ n10_ n11_ n12_ n13_ n14_ n15_ n16_ n17_ n18_ n19_ n20_;clear hb hbox hg;obtain ⟨Ao117,co117,eo117⟩:=Kd.R_slice HO25.out;subst eo117;have hnb118:=NB27_9.out;have hnc118:=NB9_27.out;have hnb119:=NB27_10.out;have hnc119:=NB10_27.out;have hnb120:=NB27_15.out;have hnc120:=NB15_27.out;have hnb121:=NB27_20.out;have hnc121:=NB20_27.out;have hcz122_0 : w116.cell? ⟨gb27,0,none⟩ = some (.slice none 0 0):=(blk_cell BK27.out 0).trans rfl;have hfz122_0:=blk_frozen BK27.out 0))
        have n0_ : Aside0 (Kd.R k87 87 (w116.setCell ⟨gb27,0,none⟩ (.slice Ao117 t23.length co117)) w.heap.size (fun _=>True) (.slice Ao10 t1.length co10) t1):=⟨by (with_reducible repeat (first | apply Kd.R_alloc | apply Kd.R_drewN | apply Kd.R_drew));exact Kd.R_mono (Kd.R_far (p:=⟨gb27,0,none⟩) (Kd.R_types Z10.out BK27.out (by decide)) (fun _ hk=>hk.2) (.slice Ao117 t23.length co117)) (fun _ hk=>trivial)⟩
        have n1_ : Aside0 (Kd.R k43 43 (w116.setCell ⟨gb27,0,none⟩ (.slice Ao117 t23.length co117)) w.heap.size (fun k_=>some k_ ≠ (.slice Ao17 t11.length co17 : Value).ownBlock ∧ some k_ ≠ (.slice Ao25 t16.length co25 : Value).ownBlock ∧ some k_ ≠ (.slice Ao117 t23.length co117 : Value).ownBlock) (.slice Ao13 t4.length co13) t4):=⟨by (with_reducible repeat (first | apply Kd.R_alloc | apply Kd.R_drewN | apply Kd.R_drew));exact Kd.R_mono (Kd.R_far (p:=⟨gb27,0,none⟩) (Kd.R_types Z11.out BK27.out (by decide)) (fun _ hk=>hk.2) (.slice Ao117 t23.length co117)) (fun _ hk=>⟨hk.1.1.1,⟨hk.1.1.2,hk.1.2⟩⟩)⟩
        have n2_ : Aside0 (Kd.R k43 43 (w116.setCell ⟨gb27,0,none⟩ (.slice Ao117 t23.length co117)) w.heap.size (fun k_=>some k_ ≠ (.slice Ao13 t4.length co13 : Value).ownBlock ∧ some k_ ≠ (.slice Ao25 t16.length co25 : Value).ownBlock ∧ some k_ ≠ (.slice Ao117 t23.length co117 : Value).ownBlock) (.slice Ao17 t11.length co17) t11):=⟨by (with_reducible repeat (first | apply Kd.R_alloc | apply Kd.R_drewN | apply Kd.R_drew));exact Kd.R_mono (Kd.R_far (p:=⟨gb27,0,none⟩) (Kd.R_types Z16.out BK27.out (by decide)) (fun _ hk=>hk.2) (.slice Ao117 t23.length co117)) (fun _ hk=>⟨hk.1.1.1,⟨hk.1.1.2,hk.1.2⟩⟩)⟩
        have n3_ : Aside0 (Kd.R k43 43 (w116.setCell ⟨gb27,0,none⟩ (.slice Ao117 t23.length co117)) w.heap.size (fun k_=>some k_ ≠ (.slice Ao13 t4.length co13 : Value).ownBlock ∧ some k_ ≠ (.slice Ao17 t11.length co17 : Value).ownBlock ∧ some k_ ≠ (.slice Ao117 t23.length co117 : Value).ownBlock) (.slice Ao25 t16.length co25) t16):=⟨by (with_reducible repeat (first | apply Kd.R_alloc | apply Kd.R_drewN | apply Kd.R_drew));exact Kd.R_mono (Kd.R_far (p:=⟨gb27,0,none⟩) (Kd.R_types Z21.out BK27.out (by decide)) (fun _ hk=>hk.2) (.slice Ao117 t23.length co117)) (fun _ hk=>⟨hk.1.1.1,⟨hk.1.1.2,hk.1.2⟩⟩)⟩
        have n4_ : Aside0 (Kd.R k43 43 (w116.setCell ⟨gb27,0,none⟩ (.slice Ao117 t23.length co117)) w.heap.size (fun k_=>some k_ ≠ (.slice Ao13 t4.length co13 : Value).ownBlock ∧ some k_ ≠ (.slice Ao17 t11.length co17 : Value).ownBlock ∧ some k_ ≠ (.slice Ao25 t16.length co25 : Value).ownBlock) (.slice Ao117 t23.length co117) t23):=⟨by (with_reducible repeat (first | apply Kd.R_alloc | apply Kd.R_drewN | apply Kd.R_drew));exact Kd.R_mono (Kd.R_far (p:=⟨gb27,0,none⟩) (Kd.R_types HO25.out BK27.out (by decide)) (fun _ hk=>hk.2) (.slice Ao117 t23.length co117)) (fun _ hk=>⟨hk.1.1.1.2,⟨hk.1.1.2,hk.1.2⟩⟩)⟩
        have n5_ : Aside0 ((w116.setCell ⟨gb27,0,none⟩ (.slice Ao117 t23.length co117)).heap[gb9]? = some (.cells #[.slice Ao10 t1.length co10] 25 (0,0))):=⟨by (with_reducible repeat (first | refine blk_drewN ?_ _ | refine blk_drew ?_ | refine blk_alloc ?_ _));refine blk_far ?_ NB9_27.out _;(with_reducible repeat (first | refine blk_drewN ?_ _ | refine blk_drew ?_ | refine blk_alloc ?_ _));exact BK9.out⟩
        have n6_ : Aside0 ((w116.setCell ⟨gb27,0,none⟩ (.slice Ao117 t23.length co117)).heap[gb10]? = some (.cells #[.slice Ao13 t4.length co13] 28 (0,0))):=⟨by (with_reducible repeat (first | refine blk_drewN ?_ _ | refine blk_drew ?_ | refine blk_alloc ?_ _));refine blk_far ?_ NB10_27.out _;(with_reducible repeat (first | refine blk_drewN ?_ _ | refine blk_drew ?_ | refine blk_alloc ?_ _));exact BK10.out⟩
        have n7_ : Aside0 ((w116.setCell ⟨gb27,0,none⟩ (.slice Ao117 t23.length co117)).heap[gb15]? = some (.cells #[.slice Ao17 t11.length co17] 28 (0,0))):=⟨by (with_reducible repeat (first | refine blk_drewN ?_ _ | refine blk_drew ?_ | refine blk_alloc ?_ _));refine blk_far ?_ NB15_27.out _;(with_reducible repeat (first | refine blk_drewN ?_ _ | refine blk_drew ?_ | refine blk_alloc ?_ _));exact BK15.out⟩
        have n8_ : Aside0 ((w116.setCell ⟨gb27,0,none⟩ (.slice Ao117 t23.length co117)).heap[gb20]? = some (.cells #[.slice Ao25 t16.length co25] 28 (0,0))):=⟨by (with_reducible repeat (first | refine blk_drewN ?_ _ | refine blk_drew ?_ | refine blk_alloc ?_ _));refine blk_far ?_ NB20_27.out _;(with_reducible repeat (first | refine blk_drewN ?_ _ | refine blk_drew ?_ | refine blk_alloc ?_ _));exact BK20.out⟩
        have n9_ : Aside0 ((w116.setCell ⟨gb27,0,none⟩ (.slice Ao117 t23.length co117)).heap[gb27]? = some (.cells #[.slice Ao117 t23.length co117] 28 (0,0))):=⟨by (with_reducible repeat (first | refine blk_drewN ?_ _ | refine blk_drew ?_ | refine blk_alloc ?_ _));refine blk_put (cs:=#[.slice none 0 0]) ?_ 0 _ rfl;(with_reducible repeat (first | refine blk_drewN ?_ _ | refine blk_drew ?_ | refine blk_alloc ?_ _));exact BK27.out⟩
        have n10_ : Aside0 (Below w.heap.size w (w116.setCell ⟨gb27,0,none⟩ (.slice Ao117 t23.length co117))):=⟨hb_⟩
        (try clear Z10)
        (try clear Z11)
        (try clear Z16)
        (try clear Z21)
        (try clear HO25)
        (try clear BK9)
        (try clear BK10)
        (try clear BK15)
        (try clear BK20)
        (try clear BK27)
        (try clear HB)
        generalize (w116.setCell ⟨gb27,0,none⟩ (.slice Ao117 t23.length co117)) = w123 at n0_ n1_ n2_ n3_ n4_ n5_ n6_ n7_ n8_ n9_ n10_ ⊢
        have Z10:=n0_
        have Z11:=n1_
        have Z16:=n2_
        have Z21:=n3_
        have HO25:=n4_
        have BK9:=n5_
        have BK10:=n6_
        have BK15:=n7_
        have BK20:=n8_
        have BK27:=n9_
        have HB:=n10_
        clear n0_ n1_ n2_ n3_ n4_ n5_ n6_ n7_ n8_ n9_ n10_
        have n0_:=a0_ (Kd.R_drew Z10.out)
        have n1_:=a0_ (Kd.R_drew Z11.out)
        have n2_:=a0_ (Kd.R_drew Z16.out)
        have n3_:=a0_ (Kd.R_drew Z21.out)
        have n4_:=a0_ (Kd.R_drew HO25.out)
        have n5_:=a0_ (blk_drew BK9.out)
        have n6_:=a0_ (blk_drew BK10.out)
        have n7_:=a0_ (blk_drew BK15.out)
        have n8_:=a0_ (blk_drew BK20.out)
        have n9_:=a0_ (blk_drew BK27.out)
        have n10_:=a0_ (below_drew1 HB.out)
        clear Z10
        clear Z11
        clear Z16
        clear Z21
        clear HO25
        clear BK9
        clear BK10
        clear BK15
        clear BK20
        clear BK27
        clear HB
        have Z10:=n0_
        have Z11:=n1_
        have Z16:=n2_
        have Z21:=n3_
        have HO25:=n4_
        have BK9:=n5_
        have BK10:=n6_
        have BK15:=n7_
        have BK20:=n8_
        have BK27:=n9_
        have HB:=n10_
        clear n0_ n1_ n2_ n3_ n4_ n5_ n6_ n7_ n8_ n9_ n10_
        refine start_ (n:=26) (S:=fun w'=>w'.cell? ⟨gb9,0,none⟩ = some (.slice Ao10 t1.length co10) ∧ w'.cell? ⟨gb15,0,none⟩ = some (.slice Ao17 t11.length co17) ∧ w'.cell? ⟨gb27,0,none⟩ = some (.slice Ao117 t23.length co117)) (ds:=[]) #[false,false,false,false,false,false,false,false,false,false,false,false,false,false,false,false,false,false,false,false,false,false,false,false,false,false] (by kernel_rfl) rfl rfl ⟨(blk_cell BK9.out 0).trans rfl,(blk_cell BK15.out 0).trans rfl,(blk_cell BK27.out 0).trans rfl⟩ (fun hHeld=>?_);refine with_tabW laws_FnSetCause.tab9 laws_FnSetCause.bits9 (fun HT_ HW_=>?_)
        generalize w123.drew = w124 at Z10 Z11 Z16 Z21 HO25 BK9 BK10 BK15 BK20 BK27 HB hHeld ⊢
        refine pure_ (i:=2) (N:=some 70) (v:=?_) (a':=?_) #[false,false,true,false,false,false,false,false,false,false,false,false,false,false,false,false,false,false,false,false,false,false,false,false,false,false] rfl rfl (any_of HT_.out (by kernel_rfl)) (fun _ _ _ h=>h) (Or.inl ⟨by rfl,?_⟩) ?_ ?_
        rotate_left
        ·intro w'
         go_simp
         with_reducible rfl
        rotate_left
        ·simp only [Act.put,s1_,s2_,s3_,i64_w,i32_w]
         rfl
        refine pure_ (i:=4) (N:=some 72) (v:=?_) (a':=?_) #[false,false,true,false,true,false,false,false,false,false,false,false,false,false,false,false,false,false,false,false,false,false,false,false,false,false] rfl rfl (any_of HT_.out (by kernel_rfl)) (fun _ _ _ h=>h) (Or.inl ⟨by rfl,?_⟩) ?_ ?_
        rotate_left
        ·intro w'
         go_simp
         with_reducible rfl
        rotate_left
        ·simp only [Act.put,s1_,s2_,s3_,i64_w,i32_w]
         rfl
        refine take_ (i:=0) (N:=some 68) (v:=?_) (a':=?_) #[true,false,true,false,true,false,false,false,false,false,false,false,false,false,false,false,false,false,false,false,false,false,false,false,false,false] rfl rfl (take_ofW HT_.out HW_.out (by kernel_rfl)) (fun _ _ _ h=>h) (Or.inl ⟨by rfl,?_⟩) hHeld ?_ ?_
        rotate_left
        ·rintro w' ⟨s0,s1,s2⟩
         go_simp
         with_reducible rfl
        rotate_left
        ·simp only [Act.put,s1_,s2_,s3_,i64_w,i32_w]
         rfl
        refine take_ (i:=1) (N:=some 69) (v:=?_) (a':=?_) #[true,true,true,false,true,false,false,false,false,false,false,false,false,false,false,false,false,false,false,false,false,false,false,false,false,false] rfl rfl (take_ofW HT_.out HW_.out (by kernel_rfl)) (fun _ _ _ h=>h) (Or.inl ⟨by rfl,?_⟩) hHeld ?_ ?_
        rotate_left
        ·rintro w' ⟨s0,s1,s2⟩
         go_simp
         with_reducible rfl
        rotate_left
        ·simp only [Act.put,s1_,s2_,s3_,i64_w,i32_w]
         rfl
        refine one_ (i:=3) (N:=some 71) #[true,true,true,true,true,false,false,false,false,false,false,false,false,false,false,false,false,false,false,false,false,false,false,false,false,false] rfl rfl (one_of HT_.out (by kernel_rfl)) (by decide) (fun K hK=>?_)
        refine goes_ Try.func14 (by kernel_rfl) rfl #[.agg #[.slice Ao10 t1.length co10],.agg #[.slice Ao17 t11.length co17],.int .i64 t7] (by rfl) rfl rfl lm_ ?_
        with_reducible refine (impl_ShownNext.calls _ _ t1 _ _ t11 t7 t28 _ ?side1 ?side2 ?side3 ?side4 A77.out).mono ?_
        (case side1=>exact cc_ (Kd.R_reads' Z10.out).2.2)
        (case side2=>exact (Kd.R_reads' Z10.out).2.1)
        (case side3=>exact cc_ (Kd.R_reads' Z16.out).2.2)
        (case side4=>exact (Kd.R_reads' Z16.out).2.1)
        rintro e w125 ⟨rfl,hb⟩
        refine ⟨_,rfl,?_⟩
        have n0_:=rb_ Z10 hb
        have n1_:=rb_ Z11 hb
        have n2_:=rb_ Z16 hb
        have n3_:=rb_ Z21 hb
        have n4_:=rb_ HO25 hb
        have n5_:=kb_ BK9 hb
        have n6_:=kb_ BK10 hb
        have n7_:=kb_ BK15 hb
        have n8_:=kb_ BK20 hb
        have n9_:=kb_ BK27 hb
        have n10_:=a0_ (below_step hb_ hb)
        clear Z10
        clear Z11
        clear Z16
        clear Z21
        clear HO25
        clear BK9
        clear BK10
        clear BK15
        clear BK20
        clear BK27
        clear HB
        have Z10:=n0_
        have Z11:=n1_
        have Z16:=n2_
        have Z21:=n3_
        have HO25:=n4_
        have BK9:=n5_
        have BK10:=n6_
        have BK15:=n7_
        have BK20:=n8_
        have BK27:=n9_
        have HB:=n10_
        clear n0_ n1_ n2_ n3_ n4_ n5_ n6_ n7_ n8_ n9_ n10_
        (try clear hb)
        (try clear hb2)
        (try clear hk)
        (try clear hi)
        refine hK.out _ _ ⟨(blk_cell BK9.out 0).trans rfl,(blk_cell BK15.out 0).trans rfl,(blk_cell BK27.out 0).trans rfl⟩ (fun hHeld=>?_)
        clear hK K
        refine norm_ (a':=?_) ?_ ?_
        rotate_left
        ·show Act.put _ (some 71) _ = _
         simp only [Act.put,s1_,s2_,s3_,i64_w,i32_w]
         rfl
        refine pure_ (i:=5) (N:=some 73) (v:=?_) (a':=?_) #[true,true,true,true,true,true,false,false,false,false,false,false,false,false,false,false,false,false,false,false,false,false,false,false,false,false] rfl rfl (any_of HT_.out (by kernel_rfl)) (fun _ _ _ h=>h) (Or.inl ⟨by rfl,?_⟩) ?_ ?_
        rotate_left
        ·intro w'
         go_simp
         with_reducible rfl
        rotate_left
        ·simp only [Act.put,s1_,s2_,s3_,i64_w,i32_w]
         rfl
        refine pure_ (i:=6) (N:=some 74) (v:=?_) (a':=?_) #[true,true,true,true,true,true,true,false,false,false,false,false,false,false,false,false,false,false,false,false,false,false,false,false,false,false] rfl rfl (any_of HT_.out (by kernel_rfl)) (fun _ _ _ h=>h) (Or.inl ⟨by rfl,?_⟩) ?_ ?_
        rotate_left
        ·intro w'
         go_simp
         with_reducible rfl
        rotate_left
        ·simp only [Act.put,s1_,s2_,s3_,i64_w,i32_w]
         rfl
        refine pure_ (i:=7) (N:=some 75) (v:=?_) (a':=?_) #[true,true,true,true,true,true,true,true,false,false,false,false,false,false,false,false,false,false,false,false,false,false,false,false,false,false] rfl rfl (any_of HT_.out (by kernel_rfl)) (fun _ _ _ h=>h) (Or.inl ⟨by rfl,?_⟩) ?_ ?_
        rotate_left
        ·intro w'
         go_simp
         with_reducible rfl
        rotate_left
        ·simp only [Act.put,s1_,s2_,s3_,i64_w,i32_w]
         rfl
        refine pure_ (i:=8) (N:=some 76) (v:=?_) (a':=?_) #[true,true,true,true,true,true,true,true,true,false,false,false,false,false,false,false,false,false,false,false,false,false,false,false,false,false] rfl rfl (any_of HT_.out (by kernel_rfl)) (fun _ _ _ h=>h) (Or.inl ⟨by rfl,?_⟩) ?_ ?_
        rotate_left
        ·intro w'
         go_simp
         with_reducible rfl
        rotate_left
        ·simp only [Act.put,s1_,s2_,s3_,i64_w,i32_w]
         rfl
        refine pure_ (i:=9) (N:=some 77) (v:=?_) (a':=?_) #[true,true,true,true,true,true,true,true,true,true,false,false,false,false,false,false,false,false,false,false,false,false,false,false,false,false] rfl rfl (any_of HT_.out (by kernel_rfl)) (fun _ _ _ h=>h) (Or.inl ⟨by rfl,?_⟩) ?_ ?_
        rotate_left
        ·intro w'
         go_simp
         with_reducible rfl
        rotate_left
        ·simp only [Act.put,s1_,s2_,s3_,i64_w,i32_w]
         rfl
        refine take_ (i:=10) (N:=some 78) (v:=?_) (a':=?_) #[true,true,true,true,true,true,true,true,true,true,true,false,false,false,false,false,false,false,false,false,false,false,false,false,false,false] rfl rfl (take_ofW HT_.out HW_.out (by kernel_rfl)) (fun _ _ _ h=>h) (Or.inl ⟨by rfl,?_⟩) hHeld ?_ ?_
        rotate_left
        ·rintro w' ⟨s0,s1,s2⟩
         go_simp
         with_reducible rfl
        rotate_left
        ·simp only [Act.put,s1_,s2_,s3_,i64_w,i32_w]
         rfl
        refine take_ (i:=11) (N:=some 79) (v:=?_) (a':=?_) #[true,true,true,true,true,true,true,true,true,true,true,true,false,false,false,false,false,false,false,false,false,false,false,false,false,false] rfl rfl (take_ofW HT_.out HW_.out (by kernel_rfl)) (fun _ _ _ h=>h) (Or.inl ⟨by rfl,?_⟩) hHeld ?_ ?_
        rotate_left
        ·rintro w' ⟨s0,s1,s2⟩
         go_simp
         with_reducible rfl
        rotate_left
        ·simp only [Act.put,s1_,s2_,s3_,i64_w,i32_w]
         rfl
        refine one_ (i:=12) (N:=some 80) #[true,true,true,true,true,true,true,true,true,true,true,true,true,false,false,false,false,false,false,false,false,false,false,false,false,false] rfl rfl (one_of HT_.out (by kernel_rfl)) (by decide) (fun K hK=>?_)
        refine goes_ Try.func19 (by kernel_rfl) rfl #[.agg #[.slice Ao117 t23.length co117],.agg #[.slice Ao17 t11.length co17]] (by rfl) rfl rfl lm_ ?_
        with_reducible refine (laws_equalHeap.calls kj5 _ _ t23 _ _ t11 false _ ?side1 ?side2 ?side3 ?side4 A80.out).mono ?_
        (case side1=>exact cc_ (Kd.R_reads' HO25.out).2.2)
        (case side2=>exact (Kd.R_reads' HO25.out).2.1)
        (case side3=>exact cc_ (Kd.R_reads' Z16.out).2.2)
        (case side4=>exact (Kd.R_reads' Z16.out).2.1)
        rintro e w126 ⟨rfl,hb⟩
        refine ⟨_,rfl,?_⟩
        have n0_:=rb_ Z10 hb
        have n1_:=rb_ Z11 hb
        have n2_:=rb_ Z16 hb
        have n3_:=rb_ Z21 hb
        have n4_:=rb_ HO25 hb
        have n5_:=kb_ BK9 hb
        have n6_:=kb_ BK10 hb
        have n7_:=kb_ BK15 hb
        have n8_:=kb_ BK20 hb
        have n9_:=kb_ BK27 hb
        have n10_:=a0_ (below_step hb_ hb)
        clear Z10
        clear Z11
        clear Z16
        clear Z21
        clear HO25
        clear BK9
        clear BK10
        clear BK15
        clear BK20
        clear BK27
        clear HB
        have Z10:=n0_
        have Z11:=n1_
        have Z16:=n2_
        have Z21:=n3_
        have HO25:=n4_
        have BK9:=n5_
        have BK10:=n6_
        have BK15:=n7_
        have BK20:=n8_
        have BK27:=n9_
        have HB:=n10_
        clear n0_ n1_ n2_ n3_ n4_ n5_ n6_ n7_ n8_ n9_ n10_
        (try clear hb)
        (try clear hb2)
        (try clear hk)
        (try clear hi)
        refine hK.out _ _ ⟨(blk_cell BK9.out 0).trans rfl,(blk_cell BK15.out 0).trans rfl,(blk_cell BK27.out 0).trans rfl⟩ (fun hHeld=>?_)
        clear hK K
        refine norm_ (a':=?_) ?_ ?_
        rotate_left
        ·show Act.put _ (some 80) _ = _
         simp only [Act.put,s1_,s2_,s3_,i64_w,i32_w]
         rfl
        refine pure_ (i:=13) (N:=some 81) (v:=?_) (a':=?_) #[true,true,true,true,true,true,true,true,true,true,true,true,true,true,false,false,false,false,false,false,false,false,false,false,false,false] rfl rfl (any_of HT_.out (by kernel_rfl)) (fun _ _ _ h=>h) (Or.inl ⟨by rfl,?_⟩) ?_ ?_
        rotate_left
        ·intro w'
         go_simp
         with_reducible rfl
        rotate_left
        ·simp only [Act.put,s1_,s2_,s3_,i64_w,i32_w]
         rfl
        refine pure_ (i:=14) (N:=some 82) (v:=?_) (a':=?_) #[true,true,true,true,true,true,true,true,true,true,true,true,true,true,true,false,false,false,false,false,false,false,false,false,false,false] rfl rfl (any_of HT_.out (by kernel_rfl)) (fun _ _ _ h=>h) (Or.inl ⟨by rfl,?_⟩) ?_ ?_
        rotate_left
        ·intro w'
         go_simp
         with_reducible rfl
        rotate_left
        ·simp only [Act.put,s1_,s2_,s3_,i64_w,i32_w]
         rfl
        refine pure_ (i:=15) (N:=some 83) (v:=undef) (a':=?_) #[true,true,true,true,true,true,true,true,true,true,true,true,true,true,true,true,false,false,false,false,false,false,false,false,false,false] rfl rfl (any_of HT_.out (by kernel_rfl)) (fun _ _ _ h=>h) (Or.inr ⟨by rfl,rfl⟩) ?_ ?_
        rotate_left
        ·simp only [Act.put,s1_,s2_,s3_,i64_w,i32_w]
         rfl
        refine pure_ (i:=16) (N:=some 84) (v:=undef) (a':=?_) #[true,true,true,true,true,true,true,true,true,true,true,true,true,true,true,true,true,false,false,false,false,false,false,false,false,false] rfl rfl (any_of HT_.out (by kernel_rfl)) (fun _ _ _ h=>h) (Or.inr ⟨by rfl,rfl⟩) ?_ ?_
        rotate_left
        ·simp only [Act.put,s1_,s2_,s3_,i64_w,i32_w]
         rfl
        refine pure_ (i:=17) (N:=some 85) (v:=undef) (a':=?_) #[true,true,true,true,true,true,true,true,true,true,true,true,true,true,true,true,true,true,false,false,false,false,false,false,false,false] rfl rfl (any_of HT_.out (by kernel_rfl)) (fun _ _ _ h=>h) (Or.inr ⟨by rfl,rfl⟩) ?_ ?_
        rotate_left
        ·simp only [Act.put,s1_,s2_,s3_,i64_w,i32_w]
         rfl
        refine pure_ (i:=18) (N:=some 86) (v:=undef) (a':=?_) #[true,true,true,true,true,true,true,true,true,true,true,true,true,true,true,true,true,true,true,false,false,false,false,false,false,false] rfl rfl (any_of HT_.out (by kernel_rfl)) (fun _ _ _ h=>h) (Or.inr ⟨by rfl,rfl⟩) ?_ ?_
        rotate_left
        ·simp only [Act.put,s1_,s2_,s3_,i64_w,i32_w]
         rfl
        refine pure_ (i:=19) (N:=some 87) (v:=undef) (a':=?_) #[true,true,true,true,true,true,true,true,true,true,true,true,true,true,true,true,true,true,true,true,false,false,false,false,false,false] rfl rfl (any_of HT_.out (by kernel_rfl)) (fun _ _ _ h=>h) (Or.inr ⟨by rfl,rfl⟩) ?_ ?_
        rotate_left
        ·simp only [Act.put,s1_,s2_,s3_,i64_w,i32_w]
         rfl
        refine pure_ (i:=20) (N:=some 88) (v:=undef) (a':=?_) #[true,true,true,true,true,true,true,true,true,true,true,true,true,true,true,true,true,true,true,true,true,false,false,false,false,false] rfl rfl (any_of HT_.out (by kernel_rfl)) (fun _ _ _ h=>h) (Or.inr ⟨by rfl,rfl⟩) ?_ ?_
        rotate_left
        ·simp only [Act.put,s1_,s2_,s3_,i64_w,i32_w]
         rfl
        refine pure_ (i:=21) (N:=some 89) (v:=undef) (a':=?_) #[true,true,true,true,true,true,true,true,true,true,true,true,true,true,true,true,true,true,true,true,true,true,false,false,false,false] rfl rfl (any_of HT_.out (by kernel_rfl)) (fun _ _ _ h=>h) (Or.inr ⟨by rfl,rfl⟩) ?_ ?_
        rotate_left
        ·simp only [Act.put,s1_,s2_,s3_,i64_w,i32_w]
         rfl
        refine pure_ (i:=22) (N:=some 90) (v:=undef) (a':=?_) #[true,true,true,true,true,true,true,true,true,true,true,true,true,true,true,true,true,true,true,true,true,true,true,false,false,false] rfl rfl (any_of HT_.out (by kernel_rfl)) (fun _ _ _ h=>h) (Or.inr ⟨by rfl,rfl⟩) ?_ ?_
        rotate_left
        ·simp only [Act.put,s1_,s2_,s3_,i64_w,i32_w]
         rfl
        refine pure_ (i:=23) (N:=some 91) (v:=undef) (a':=?_) #[true,true,true,true,true,true,true,true,true,true,true,true,true,true,true,true,true,true,true,true,true,true,true,true,false,false] rfl rfl (any_of HT_.out (by kernel_rfl)) (fun _ _ _ h=>h) (Or.inr ⟨by rfl,rfl⟩) ?_ ?_
        rotate_left
        ·simp only [Act.put,s1_,s2_,s3_,i64_w,i32_w]
         rfl
        refine pure_ (i:=24) (N:=some 92) (v:=?_) (a':=?_) #[true,true,true,true,true,true,true,true,true,true,true,true,true,true,true,true,true,true,true,true,true,true,true,true,true,false] rfl rfl (any_of HT_.out (by kernel_rfl)) (fun _ _ _ h=>h) (Or.inl ⟨by rfl,?_⟩) ?_ ?_
        rotate_left
        ·intro w'
         go_simp
         with_reducible rfl
        rotate_left
        ·simp only [Act.put,s1_,s2_,s3_,i64_w,i32_w]
         rfl
        refine pure_ (i:=25) (N:=some 2) (v:=?_) (a':=?_) #[true,true,true,true,true,true,true,true,true,true,true,true,true,true,true,true,true,true,true,true,true,true,true,true,true,true] rfl rfl (any_of HT_.out (by kernel_rfl)) (fun _ _ _ h=>h) (Or.inl ⟨by rfl,?_⟩) ?_ ?_
        rotate_left
        ·intro w'
         go_simp
         with_reducible rfl
        rotate_left
        ·simp only [Act.put,s1_,s2_,s3_,i64_w,i32_w]
         rfl
        refine done_ (done_of HT_.out (by kernel_rfl)) ?_
        try go_wp2
        go_ret
        exact ⟨by first | rfl | (simp [errW_none,errW_some] <;> rfl) | (simp [*,errW_none,errW_some] <;> rfl),hb_⟩
      ·replace c79:=Bool.eq_false_iff.mpr c79
       subst c79
       have H1 : (some false) = some r:=by rw [if_neg (show ¬ (false = true) by decide)] at H;exact H
       clear H
       have H:=H1
       clear H1
       obtain rfl:=Option.some.inj H
       have hnb127:=NB9_10.out
       have hnc127:=NB10_9.out
       have hnb128:=NB9_15.out
       have hnc128:=NB15_9.out
       have hnb129:=NB9_20.out
       have hnc129:=NB20_9.out
       have hcz130_0 : wc.cell? ⟨gb9,0,none⟩ = some (.slice Ao10 t1.length co10):=(blk_cell BK9.out 0).trans rfl
       have hfz130_0:=blk_frozen BK9.out 0
       have hnb131:=NB15_10.out
       have hnc131:=NB10_15.out
       have hnb132:=NB15_20.out
       have hnc132:=NB20_15.out
       have hcz133_0 : wc.cell? ⟨gb15,0,none⟩ = some (.slice Ao17 t11.length co17):=(blk_cell BK15.out 0).trans rfl
       have hfz133_0:=blk_frozen BK15.out 0
       try go_wp2_with (first | ((with_reducible refine gate_callee (f:=24) rfl ?_);refine goesL_ (some 65) rfl rfl Try.func24 (by kernel_rfl) rfl #[.agg #[.slice Ao10 t1.length co10],.agg #[.slice Ao17 t11.length co17],.int .i64 t7,.int .i64 t8] rfl lm_ ?_;(with_reducible refine (impl_SetCause.calls _ _ t1 _ _ t11 t7 t8 t23 false _ ?side1 ?side2 ?side3 ?side4 A76.out).mono ?_);(case side1=>exact cc_ (Kd.R_reads' Z10.out).2.2);(case side2=>exact (Kd.R_reads' Z10.out).2.1);(case side3=>exact cc_ (Kd.R_reads' Z16.out).2.2);(case side4=>exact (Kd.R_reads' Z16.out).2.1);rintro e w134 ⟨v24,rfl,ho0,hb⟩;refine ⟨_,rfl,?_⟩;have n0_:=rb_ Z10 hb;have n1_:=a0_ (Kd.R_elder' (rr_ Z11.out) (Kd.R_base ho0) hb);have n2_:=a0_ (Kd.R_elder' (rr_ Z16.out) (Kd.R_base ho0) hb);have n3_:=a0_ (Kd.R_elder' (rr_ Z21.out) (Kd.R_base ho0) hb);have n4_:=a0_ (Kd.R_lower (Kd.R_new' (Kd.R_new' (Kd.R_new' ho0 (Kd.R_lt (rr_ Z11.out))) (Kd.R_lt (rr_ Z16.out))) (Kd.R_lt (rr_ Z21.out))) (below_size hb_));have n5_:=kb_ BK9 hb;have n6_:=kb_ BK10 hb;have n7_:=kb_ BK15 hb;have n8_:=kb_ BK20 hb;have n9_:=a0_ (below_step hb_ hb);clear Z10 Z11;clear Z16 Z21;clear BK9 BK10;clear BK15 BK20 HB;have Z10:=n0_;have Z11:=n1_;have Z16:=n2_;have Z21:=n3_;have HO25:=n4_;have BK9:=n5_;have BK10:=n6_;have BK15:=n7_;have BK20:=n8_;have HB:=n9_;clear n0_ n1_ n2_ n3_ n4_ n5_ n6_ n7_ n8_ n9_;(try clear hb);(try clear ho0)) | ((with_reducible refine gate_dst (N:=11) rfl ?_);refine box_event ?hg (N:=11) ?hd (cs:=#[.slice none 0 0]) (t:=28) ?hr ?_;(case hd=>rfl);(case hg=>rfl);(case hr=>first | (go_simp;done) | (go_simp;rfl));intro gb27 hg w135 hbox hb;have n0_:=rb_ Z10 hb;have n1_:=rb_ Z11 hb;have n2_:=rb_ Z16 hb;have n3_:=rb_ Z21 hb;have n4_:=rb_ HO25 hb;have n5_:=kb_ BK9 hb;have n6_:=kb_ BK10 hb;have n7_:=kb_ BK15 hb;have n8_:=kb_ BK20 hb;have n9_:=a0_ (below_step hb_ hb);have n10_:=a0_ (hbox);have n11_:=a0_ ((by rw [hg];exact (below_size hb_) : w.heap.size ≤ gb27));have n12_:=a0_ ((by rw [hg];exact (below_size hb_) : w.heap.size ≤ gb27));have n13_:=a0_ ((by rw [hg];exact Nat.ne_of_lt (blk_lt (bb_ BK9.out)) : gb9 ≠ gb27));have n14_:=a0_ ((by rw [hg];exact Nat.ne_of_gt (blk_lt (bb_ BK9.out)) : gb27 ≠ gb9));have n15_:=a0_ ((by rw [hg];exact Nat.ne_of_lt (blk_lt (bb_ BK10.out)) : gb10 ≠ gb27));have n16_:=a0_ ((by rw [hg];exact Nat.ne_of_gt (blk_lt (bb_ BK10.out)) : gb27 ≠ gb10));have n17_:=a0_ ((by rw [hg];exact Nat.ne_of_lt (blk_lt (bb_ BK15.out)) : gb15 ≠ gb27));have n18_:=a0_ ((by rw [hg];exact Nat.ne_of_gt (blk_lt (bb_ BK15.out)) : gb27 ≠ gb15));have n19_:=a0_ ((by rw [hg];exact Nat.ne_of_lt (blk_lt (bb_ BK20.out)) : gb20 ≠ gb27));have n20_:=a0_ ((by rw [hg];exact Nat.ne_of_gt (blk_lt (bb_ BK20.out)) : gb27 ≠ gb20));clear Z10 Z11;clear Z16 Z21;clear HO25 BK9;clear BK10 BK15;clear BK20 HB;have Z10:=n0_;have Z11:=n1_;have Z16:=n2_;have Z21:=n3_;have HO25:=n4_;have BK9:=n5_;have BK10:=n6_;have BK15:=n7_;have BK20:=n8_;have HB:=n9_;have BK27:=n10_;have GW27:=n11_;have GE27:=n12_;have NB9_27:=n13_;have NB27_9:=n14_;have NB10_27:=n15_;have NB27_10:=n16_;have NB15_27:=n17_;have NB27_15:=n18_;have NB20_27:=n19_;have NB27_20:=n20_;clear n0_ n1_ n2_ n3_ n4_ n5_ n6_ n7_ n8_ n9_ n10_ n11_ n12_ n13_ n14_ n15_ n16_ n17_ n18_ n19_ n20_;clear hb hbox hg;obtain ⟨Ao136,co136,eo136⟩:=Kd.R_slice HO25.out;subst eo136;have hnb137:=NB27_9.out;have hnc137:=NB9_27.out;have hnb138:=NB27_10.out;have hnc138:=NB10_27.out;have hnb139:=NB27_15.out;have hnc139:=NB15_27.out;have hnb140:=NB27_20.out;have hnc140:=NB20_27.out;have hcz141_0 : w135.cell? ⟨gb27,0,none⟩ = some (.slice none 0 0):=(blk_cell BK27.out 0).trans rfl;have hfz141_0:=blk_frozen BK27.out 0))
       have n0_ : Aside0 (Kd.R k87 87 (w135.setCell ⟨gb27,0,none⟩ (.slice Ao136 t23.length co136)) w.heap.size (fun _=>True) (.slice Ao10 t1.length co10) t1):=⟨by (with_reducible repeat (first | apply Kd.R_alloc | apply Kd.R_drewN | apply Kd.R_drew));exact Kd.R_mono (Kd.R_far (p:=⟨gb27,0,none⟩) (Kd.R_types Z10.out BK27.out (by decide)) (fun _ hk=>hk.2) (.slice Ao136 t23.length co136)) (fun _ hk=>trivial)⟩
       have n1_ : Aside0 (Kd.R k43 43 (w135.setCell ⟨gb27,0,none⟩ (.slice Ao136 t23.length co136)) w.heap.size (fun k_=>some k_ ≠ (.slice Ao17 t11.length co17 : Value).ownBlock ∧ some k_ ≠ (.slice Ao25 t16.length co25 : Value).ownBlock ∧ some k_ ≠ (.slice Ao136 t23.length co136 : Value).ownBlock) (.slice Ao13 t4.length co13) t4):=⟨by (with_reducible repeat (first | apply Kd.R_alloc | apply Kd.R_drewN | apply Kd.R_drew));exact Kd.R_mono (Kd.R_far (p:=⟨gb27,0,none⟩) (Kd.R_types Z11.out BK27.out (by decide)) (fun _ hk=>hk.2) (.slice Ao136 t23.length co136)) (fun _ hk=>⟨hk.1.1.1,⟨hk.1.1.2,hk.1.2⟩⟩)⟩
       have n2_ : Aside0 (Kd.R k43 43 (w135.setCell ⟨gb27,0,none⟩ (.slice Ao136 t23.length co136)) w.heap.size (fun k_=>some k_ ≠ (.slice Ao13 t4.length co13 : Value).ownBlock ∧ some k_ ≠ (.slice Ao25 t16.length co25 : Value).ownBlock ∧ some k_ ≠ (.slice Ao136 t23.length co136 : Value).ownBlock) (.slice Ao17 t11.length co17) t11):=⟨by (with_reducible repeat (first | apply Kd.R_alloc | apply Kd.R_drewN | apply Kd.R_drew));exact Kd.R_mono (Kd.R_far (p:=⟨gb27,0,none⟩) (Kd.R_types Z16.out BK27.out (by decide)) (fun _ hk=>hk.2) (.slice Ao136 t23.length co136)) (fun _ hk=>⟨hk.1.1.1,⟨hk.1.1.2,hk.1.2⟩⟩)⟩
       have n3_ : Aside0 (Kd.R k43 43 (w135.setCell ⟨gb27,0,none⟩ (.slice Ao136 t23.length co136)) w.heap.size (fun k_=>some k_ ≠ (.slice Ao13 t4.length co13 : Value).ownBlock ∧ some k_ ≠ (.slice Ao17 t11.length co17 : Value).ownBlock ∧ some k_ ≠ (.slice Ao136 t23.length co136 : Value).ownBlock) (.slice Ao25 t16.length co25) t16):=⟨by (with_reducible repeat (first | apply Kd.R_alloc | apply Kd.R_drewN | apply Kd.R_drew));exact Kd.R_mono (Kd.R_far (p:=⟨gb27,0,none⟩) (Kd.R_types Z21.out BK27.out (by decide)) (fun _ hk=>hk.2) (.slice Ao136 t23.length co136)) (fun _ hk=>⟨hk.1.1.1,⟨hk.1.1.2,hk.1.2⟩⟩)⟩
       have n4_ : Aside0 (Kd.R k43 43 (w135.setCell ⟨gb27,0,none⟩ (.slice Ao136 t23.length co136)) w.heap.size (fun k_=>some k_ ≠ (.slice Ao13 t4.length co13 : Value).ownBlock ∧ some k_ ≠ (.slice Ao17 t11.length co17 : Value).ownBlock ∧ some k_ ≠ (.slice Ao25 t16.length co25 : Value).ownBlock) (.slice Ao136 t23.length co136) t23):=⟨by (with_reducible repeat (first | apply Kd.R_alloc | apply Kd.R_drewN | apply Kd.R_drew));exact Kd.R_mono (Kd.R_far (p:=⟨gb27,0,none⟩) (Kd.R_types HO25.out BK27.out (by decide)) (fun _ hk=>hk.2) (.slice Ao136 t23.length co136)) (fun _ hk=>⟨hk.1.1.1.2,⟨hk.1.1.2,hk.1.2⟩⟩)⟩
       have n5_ : Aside0 ((w135.setCell ⟨gb27,0,none⟩ (.slice Ao136 t23.length co136)).heap[gb9]? = some (.cells #[.slice Ao10 t1.length co10] 25 (0,0))):=⟨by (with_reducible repeat (first | refine blk_drewN ?_ _ | refine blk_drew ?_ | refine blk_alloc ?_ _));refine blk_far ?_ NB9_27.out _;(with_reducible repeat (first | refine blk_drewN ?_ _ | refine blk_drew ?_ | refine blk_alloc ?_ _));exact BK9.out⟩
       have n6_ : Aside0 ((w135.setCell ⟨gb27,0,none⟩ (.slice Ao136 t23.length co136)).heap[gb10]? = some (.cells #[.slice Ao13 t4.length co13] 28 (0,0))):=⟨by (with_reducible repeat (first | refine blk_drewN ?_ _ | refine blk_drew ?_ | refine blk_alloc ?_ _));refine blk_far ?_ NB10_27.out _;(with_reducible repeat (first | refine blk_drewN ?_ _ | refine blk_drew ?_ | refine blk_alloc ?_ _));exact BK10.out⟩
       have n7_ : Aside0 ((w135.setCell ⟨gb27,0,none⟩ (.slice Ao136 t23.length co136)).heap[gb15]? = some (.cells #[.slice Ao17 t11.length co17] 28 (0,0))):=⟨by (with_reducible repeat (first | refine blk_drewN ?_ _ | refine blk_drew ?_ | refine blk_alloc ?_ _));refine blk_far ?_ NB15_27.out _;(with_reducible repeat (first | refine blk_drewN ?_ _ | refine blk_drew ?_ | refine blk_alloc ?_ _));exact BK15.out⟩
       have n8_ : Aside0 ((w135.setCell ⟨gb27,0,none⟩ (.slice Ao136 t23.length co136)).heap[gb20]? = some (.cells #[.slice Ao25 t16.length co25] 28 (0,0))):=⟨by (with_reducible repeat (first | refine blk_drewN ?_ _ | refine blk_drew ?_ | refine blk_alloc ?_ _));refine blk_far ?_ NB20_27.out _;(with_reducible repeat (first | refine blk_drewN ?_ _ | refine blk_drew ?_ | refine blk_alloc ?_ _));exact BK20.out⟩
       have n9_ : Aside0 ((w135.setCell ⟨gb27,0,none⟩ (.slice Ao136 t23.length co136)).heap[gb27]? = some (.cells #[.slice Ao136 t23.length co136] 28 (0,0))):=⟨by (with_reducible repeat (first | refine blk_drewN ?_ _ | refine blk_drew ?_ | refine blk_alloc ?_ _));refine blk_put (cs:=#[.slice none 0 0]) ?_ 0 _ rfl;(with_reducible repeat (first | refine blk_drewN ?_ _ | refine blk_drew ?_ | refine blk_alloc ?_ _));exact BK27.out⟩
       have n10_ : Aside0 (Below w.heap.size w (w135.setCell ⟨gb27,0,none⟩ (.slice Ao136 t23.length co136))):=⟨hb_⟩
       (try clear Z10)
       (try clear Z11)
       (try clear Z16)
       (try clear Z21)
       (try clear HO25)
       (try clear BK9)
       (try clear BK10)
       (try clear BK15)
       (try clear BK20)
       (try clear BK27)
       (try clear HB)
       generalize (w135.setCell ⟨gb27,0,none⟩ (.slice Ao136 t23.length co136)) = w142 at n0_ n1_ n2_ n3_ n4_ n5_ n6_ n7_ n8_ n9_ n10_ ⊢
       have Z10:=n0_
       have Z11:=n1_
       have Z16:=n2_
       have Z21:=n3_
       have HO25:=n4_
       have BK9:=n5_
       have BK10:=n6_
       have BK15:=n7_
       have BK20:=n8_
       have BK27:=n9_
       have HB:=n10_
       clear n0_ n1_ n2_ n3_ n4_ n5_ n6_ n7_ n8_ n9_ n10_
       have n0_:=a0_ (Kd.R_drew Z10.out)
       have n1_:=a0_ (Kd.R_drew Z11.out)
       have n2_:=a0_ (Kd.R_drew Z16.out)
       have n3_:=a0_ (Kd.R_drew Z21.out)
       have n4_:=a0_ (Kd.R_drew HO25.out)
       have n5_:=a0_ (blk_drew BK9.out)
       have n6_:=a0_ (blk_drew BK10.out)
       have n7_:=a0_ (blk_drew BK15.out)
       have n8_:=a0_ (blk_drew BK20.out)
       have n9_:=a0_ (blk_drew BK27.out)
       have n10_:=a0_ (below_drew1 HB.out)
       clear Z10
       clear Z11
       clear Z16
       clear Z21
       clear HO25
       clear BK9
       clear BK10
       clear BK15
       clear BK20
       clear BK27
       clear HB
       have Z10:=n0_
       have Z11:=n1_
       have Z16:=n2_
       have Z21:=n3_
       have HO25:=n4_
       have BK9:=n5_
       have BK10:=n6_
       have BK15:=n7_
       have BK20:=n8_
       have BK27:=n9_
       have HB:=n10_
       clear n0_ n1_ n2_ n3_ n4_ n5_ n6_ n7_ n8_ n9_ n10_
       refine start_ (n:=26) (S:=fun w'=>w'.cell? ⟨gb9,0,none⟩ = some (.slice Ao10 t1.length co10) ∧ w'.cell? ⟨gb15,0,none⟩ = some (.slice Ao17 t11.length co17)) (ds:=[]) #[false,false,false,false,false,false,false,false,false,false,false,false,false,false,false,false,false,false,false,false,false,false,false,false,false,false] (by kernel_rfl) rfl rfl ⟨(blk_cell BK9.out 0).trans rfl,(blk_cell BK15.out 0).trans rfl⟩ (fun hHeld=>?_);refine with_tabW laws_FnSetCause.tab9 laws_FnSetCause.bits9 (fun HT_ HW_=>?_)
       generalize w142.drew = w143 at Z10 Z11 Z16 Z21 HO25 BK9 BK10 BK15 BK20 BK27 HB hHeld ⊢
       refine pure_ (i:=2) (N:=some 70) (v:=?_) (a':=?_) #[false,false,true,false,false,false,false,false,false,false,false,false,false,false,false,false,false,false,false,false,false,false,false,false,false,false] rfl rfl (any_of HT_.out (by kernel_rfl)) (fun _ _ _ h=>h) (Or.inl ⟨by rfl,?_⟩) ?_ ?_
       rotate_left
       ·intro w'
        go_simp
        with_reducible rfl
       rotate_left
       ·simp only [Act.put,s1_,s2_,s3_,i64_w,i32_w]
        rfl
       refine pure_ (i:=4) (N:=some 72) (v:=?_) (a':=?_) #[false,false,true,false,true,false,false,false,false,false,false,false,false,false,false,false,false,false,false,false,false,false,false,false,false,false] rfl rfl (any_of HT_.out (by kernel_rfl)) (fun _ _ _ h=>h) (Or.inl ⟨by rfl,?_⟩) ?_ ?_
       rotate_left
       ·intro w'
        go_simp
        with_reducible rfl
       rotate_left
       ·simp only [Act.put,s1_,s2_,s3_,i64_w,i32_w]
        rfl
       refine take_ (i:=0) (N:=some 68) (v:=?_) (a':=?_) #[true,false,true,false,true,false,false,false,false,false,false,false,false,false,false,false,false,false,false,false,false,false,false,false,false,false] rfl rfl (take_ofW HT_.out HW_.out (by kernel_rfl)) (fun _ _ _ h=>h) (Or.inl ⟨by rfl,?_⟩) hHeld ?_ ?_
       rotate_left
       ·rintro w' ⟨s0,s1⟩
        go_simp
        with_reducible rfl
       rotate_left
       ·simp only [Act.put,s1_,s2_,s3_,i64_w,i32_w]
        rfl
       refine take_ (i:=1) (N:=some 69) (v:=?_) (a':=?_) #[true,true,true,false,true,false,false,false,false,false,false,false,false,false,false,false,false,false,false,false,false,false,false,false,false,false] rfl rfl (take_ofW HT_.out HW_.out (by kernel_rfl)) (fun _ _ _ h=>h) (Or.inl ⟨by rfl,?_⟩) hHeld ?_ ?_
       rotate_left
       ·rintro w' ⟨s0,s1⟩
        go_simp
        with_reducible rfl
       rotate_left
       ·simp only [Act.put,s1_,s2_,s3_,i64_w,i32_w]
        rfl
       refine one_ (i:=3) (N:=some 71) #[true,true,true,true,true,false,false,false,false,false,false,false,false,false,false,false,false,false,false,false,false,false,false,false,false,false] rfl rfl (one_of HT_.out (by kernel_rfl)) (by decide) (fun K hK=>?_)
       refine goes_ Try.func14 (by kernel_rfl) rfl #[.agg #[.slice Ao10 t1.length co10],.agg #[.slice Ao17 t11.length co17],.int .i64 t7] (by rfl) rfl rfl lm_ ?_
       with_reducible refine (impl_ShownNext.calls _ _ t1 _ _ t11 t7 t28 _ ?side1 ?side2 ?side3 ?side4 A77.out).mono ?_
       (case side1=>exact cc_ (Kd.R_reads' Z10.out).2.2)
       (case side2=>exact (Kd.R_reads' Z10.out).2.1)
       (case side3=>exact cc_ (Kd.R_reads' Z16.out).2.2)
       (case side4=>exact (Kd.R_reads' Z16.out).2.1)
       rintro e w144 ⟨rfl,hb⟩
       refine ⟨_,rfl,?_⟩
       have n0_:=rb_ Z10 hb
       have n1_:=rb_ Z11 hb
       have n2_:=rb_ Z16 hb
       have n3_:=rb_ Z21 hb
       have n4_:=rb_ HO25 hb
       have n5_:=kb_ BK9 hb
       have n6_:=kb_ BK10 hb
       have n7_:=kb_ BK15 hb
       have n8_:=kb_ BK20 hb
       have n9_:=kb_ BK27 hb
       have n10_:=a0_ (below_step hb_ hb)
       clear Z10
       clear Z11
       clear Z16
       clear Z21
       clear HO25
       clear BK9
       clear BK10
       clear BK15
       clear BK20
       clear BK27
       clear HB
       have Z10:=n0_
       have Z11:=n1_
       have Z16:=n2_
       have Z21:=n3_
       have HO25:=n4_
       have BK9:=n5_
       have BK10:=n6_
       have BK15:=n7_
       have BK20:=n8_
       have BK27:=n9_
       have HB:=n10_
       clear n0_ n1_ n2_ n3_ n4_ n5_ n6_ n7_ n8_ n9_ n10_
       (try clear hb)
       (try clear hb2)
       (try clear hk)
       (try clear hi)
       refine hK.out _ _ ⟨(blk_cell BK9.out 0).trans rfl,(blk_cell BK15.out 0).trans rfl⟩ (fun hHeld=>?_)
       clear hK K
       refine norm_ (a':=?_) ?_ ?_
       rotate_left
       ·show Act.put _ (some 71) _ = _
        simp only [Act.put,s1_,s2_,s3_,i64_w,i32_w]
        rfl
       refine pure_ (i:=5) (N:=some 73) (v:=?_) (a':=?_) #[true,true,true,true,true,true,false,false,false,false,false,false,false,false,false,false,false,false,false,false,false,false,false,false,false,false] rfl rfl (any_of HT_.out (by kernel_rfl)) (fun _ _ _ h=>h) (Or.inl ⟨by rfl,?_⟩) ?_ ?_
       rotate_left
       ·intro w'
        go_simp
        with_reducible rfl
       rotate_left
       ·simp only [Act.put,s1_,s2_,s3_,i64_w,i32_w]
        rfl
       refine pure_ (i:=6) (N:=some 74) (v:=?_) (a':=?_) #[true,true,true,true,true,true,true,false,false,false,false,false,false,false,false,false,false,false,false,false,false,false,false,false,false,false] rfl rfl (any_of HT_.out (by kernel_rfl)) (fun _ _ _ h=>h) (Or.inl ⟨by rfl,?_⟩) ?_ ?_
       rotate_left
       ·intro w'
        go_simp
        with_reducible rfl
       rotate_left
       ·simp only [Act.put,s1_,s2_,s3_,i64_w,i32_w]
        rfl
       refine pure_ (i:=7) (N:=some 75) (v:=?_) (a':=?_) #[true,true,true,true,true,true,true,true,false,false,false,false,false,false,false,false,false,false,false,false,false,false,false,false,false,false] rfl rfl (any_of HT_.out (by kernel_rfl)) (fun _ _ _ h=>h) (Or.inl ⟨by rfl,?_⟩) ?_ ?_
       rotate_left
       ·intro w'
        go_simp
        with_reducible rfl
       rotate_left
       ·simp only [Act.put,s1_,s2_,s3_,i64_w,i32_w]
        rfl
       refine pure_ (i:=8) (N:=some 76) (v:=?_) (a':=?_) #[true,true,true,true,true,true,true,true,true,false,false,false,false,false,false,false,false,false,false,false,false,false,false,false,false,false] rfl rfl (any_of HT_.out (by kernel_rfl)) (fun _ _ _ h=>h) (Or.inl ⟨by rfl,?_⟩) ?_ ?_
       rotate_left
       ·intro w'
        go_simp
        with_reducible rfl
       rotate_left
       ·simp only [Act.put,s1_,s2_,s3_,i64_w,i32_w]
        rfl
       refine pure_ (i:=9) (N:=some 77) (v:=?_) (a':=?_) #[true,true,true,true,true,true,true,true,true,true,false,false,false,false,false,false,false,false,false,false,false,false,false,false,false,false] rfl rfl (any_of HT_.out (by kernel_rfl)) (fun _ _ _ h=>h) (Or.inl ⟨by rfl,?_⟩) ?_ ?_
       rotate_left
       ·intro w'
        go_simp
        with_reducible rfl
       rotate_left
       ·simp only [Act.put,s1_,s2_,s3_,i64_w,i32_w]
        rfl
       refine pure_ (i:=10) (N:=some 78) (v:=undef) (a':=?_) #[true,true,true,true,true,true,true,true,true,true,true,false,false,false,false,false,false,false,false,false,false,false,false,false,false,false] rfl rfl (any_of HT_.out (by kernel_rfl)) (fun _ _ _ h=>h) (Or.inr ⟨by rfl,rfl⟩) ?_ ?_
       rotate_left
       ·simp only [Act.put,s1_,s2_,s3_,i64_w,i32_w]
        rfl
       refine pure_ (i:=11) (N:=some 79) (v:=undef) (a':=?_) #[true,true,true,true,true,true,true,true,true,true,true,true,false,false,false,false,false,false,false,false,false,false,false,false,false,false] rfl rfl (any_of HT_.out (by kernel_rfl)) (fun _ _ _ h=>h) (Or.inr ⟨by rfl,rfl⟩) ?_ ?_
       rotate_left
       ·simp only [Act.put,s1_,s2_,s3_,i64_w,i32_w]
        rfl
       refine pure_ (i:=12) (N:=some 80) (v:=undef) (a':=?_) #[true,true,true,true,true,true,true,true,true,true,true,true,true,false,false,false,false,false,false,false,false,false,false,false,false,false] rfl rfl (any_of HT_.out (by kernel_rfl)) (fun _ _ _ h=>h) (Or.inr ⟨by rfl,rfl⟩) ?_ ?_
       rotate_left
       ·simp only [Act.put,s1_,s2_,s3_,i64_w,i32_w]
        rfl
       refine pure_ (i:=13) (N:=some 81) (v:=?_) (a':=?_) #[true,true,true,true,true,true,true,true,true,true,true,true,true,true,false,false,false,false,false,false,false,false,false,false,false,false] rfl rfl (any_of HT_.out (by kernel_rfl)) (fun _ _ _ h=>h) (Or.inl ⟨by rfl,?_⟩) ?_ ?_
       rotate_left
       ·intro w'
        go_simp
        with_reducible rfl
       rotate_left
       ·simp only [Act.put,s1_,s2_,s3_,i64_w,i32_w]
        rfl
       refine pure_ (i:=14) (N:=some 82) (v:=?_) (a':=?_) #[true,true,true,true,true,true,true,true,true,true,true,true,true,true,true,false,false,false,false,false,false,false,false,false,false,false] rfl rfl (any_of HT_.out (by kernel_rfl)) (fun _ _ _ h=>h) (Or.inl ⟨by rfl,?_⟩) ?_ ?_
       rotate_left
       ·intro w'
        go_simp
        with_reducible rfl
       rotate_left
       ·simp only [Act.put,s1_,s2_,s3_,i64_w,i32_w]
        rfl
       refine pure_ (i:=15) (N:=some 83) (v:=undef) (a':=?_) #[true,true,true,true,true,true,true,true,true,true,true,true,true,true,true,true,false,false,false,false,false,false,false,false,false,false] rfl rfl (any_of HT_.out (by kernel_rfl)) (fun _ _ _ h=>h) (Or.inr ⟨by rfl,rfl⟩) ?_ ?_
       rotate_left
       ·simp only [Act.put,s1_,s2_,s3_,i64_w,i32_w]
        rfl
       refine pure_ (i:=16) (N:=some 84) (v:=undef) (a':=?_) #[true,true,true,true,true,true,true,true,true,true,true,true,true,true,true,true,true,false,false,false,false,false,false,false,false,false] rfl rfl (any_of HT_.out (by kernel_rfl)) (fun _ _ _ h=>h) (Or.inr ⟨by rfl,rfl⟩) ?_ ?_
       rotate_left
       ·simp only [Act.put,s1_,s2_,s3_,i64_w,i32_w]
        rfl
       refine pure_ (i:=17) (N:=some 85) (v:=undef) (a':=?_) #[true,true,true,true,true,true,true,true,true,true,true,true,true,true,true,true,true,true,false,false,false,false,false,false,false,false] rfl rfl (any_of HT_.out (by kernel_rfl)) (fun _ _ _ h=>h) (Or.inr ⟨by rfl,rfl⟩) ?_ ?_
       rotate_left
       ·simp only [Act.put,s1_,s2_,s3_,i64_w,i32_w]
        rfl
       refine pure_ (i:=18) (N:=some 86) (v:=undef) (a':=?_) #[true,true,true,true,true,true,true,true,true,true,true,true,true,true,true,true,true,true,true,false,false,false,false,false,false,false] rfl rfl (any_of HT_.out (by kernel_rfl)) (fun _ _ _ h=>h) (Or.inr ⟨by rfl,rfl⟩) ?_ ?_
       rotate_left
       ·simp only [Act.put,s1_,s2_,s3_,i64_w,i32_w]
        rfl
       refine pure_ (i:=19) (N:=some 87) (v:=undef) (a':=?_) #[true,true,true,true,true,true,true,true,true,true,true,true,true,true,true,true,true,true,true,true,false,false,false,false,false,false] rfl rfl (any_of HT_.out (by kernel_rfl)) (fun _ _ _ h=>h) (Or.inr ⟨by rfl,rfl⟩) ?_ ?_
       rotate_left
       ·simp only [Act.put,s1_,s2_,s3_,i64_w,i32_w]
        rfl
       refine pure_ (i:=20) (N:=some 88) (v:=undef) (a':=?_) #[true,true,true,true,true,true,true,true,true,true,true,true,true,true,true,true,true,true,true,true,true,false,false,false,false,false] rfl rfl (any_of HT_.out (by kernel_rfl)) (fun _ _ _ h=>h) (Or.inr ⟨by rfl,rfl⟩) ?_ ?_
       rotate_left
       ·simp only [Act.put,s1_,s2_,s3_,i64_w,i32_w]
        rfl
       refine pure_ (i:=21) (N:=some 89) (v:=undef) (a':=?_) #[true,true,true,true,true,true,true,true,true,true,true,true,true,true,true,true,true,true,true,true,true,true,false,false,false,false] rfl rfl (any_of HT_.out (by kernel_rfl)) (fun _ _ _ h=>h) (Or.inr ⟨by rfl,rfl⟩) ?_ ?_
       rotate_left
       ·simp only [Act.put,s1_,s2_,s3_,i64_w,i32_w]
        rfl
       refine pure_ (i:=22) (N:=some 90) (v:=undef) (a':=?_) #[true,true,true,true,true,true,true,true,true,true,true,true,true,true,true,true,true,true,true,true,true,true,true,false,false,false] rfl rfl (any_of HT_.out (by kernel_rfl)) (fun _ _ _ h=>h) (Or.inr ⟨by rfl,rfl⟩) ?_ ?_
       rotate_left
       ·simp only [Act.put,s1_,s2_,s3_,i64_w,i32_w]
        rfl
       refine pure_ (i:=23) (N:=some 91) (v:=undef) (a':=?_) #[true,true,true,true,true,true,true,true,true,true,true,true,true,true,true,true,true,true,true,true,true,true,true,true,false,false] rfl rfl (any_of HT_.out (by kernel_rfl)) (fun _ _ _ h=>h) (Or.inr ⟨by rfl,rfl⟩) ?_ ?_
       rotate_left
       ·simp only [Act.put,s1_,s2_,s3_,i64_w,i32_w]
        rfl
       refine pure_ (i:=24) (N:=some 92) (v:=?_) (a':=?_) #[true,true,true,true,true,true,true,true,true,true,true,true,true,true,true,true,true,true,true,true,true,true,true,true,true,false] rfl rfl (any_of HT_.out (by kernel_rfl)) (fun _ _ _ h=>h) (Or.inl ⟨by rfl,?_⟩) ?_ ?_
       rotate_left
       ·intro w'
        go_simp
        with_reducible rfl
       rotate_left
       ·simp only [Act.put,s1_,s2_,s3_,i64_w,i32_w]
        rfl
       refine pure_ (i:=25) (N:=some 2) (v:=?_) (a':=?_) #[true,true,true,true,true,true,true,true,true,true,true,true,true,true,true,true,true,true,true,true,true,true,true,true,true,true] rfl rfl (any_of HT_.out (by kernel_rfl)) (fun _ _ _ h=>h) (Or.inl ⟨by rfl,?_⟩) ?_ ?_
       rotate_left
       ·intro w'
        go_simp
        with_reducible rfl
       rotate_left
       ·simp only [Act.put,s1_,s2_,s3_,i64_w,i32_w]
        rfl
       refine done_ (done_of HT_.out (by kernel_rfl)) ?_
       try go_wp2
       go_ret
       exact ⟨by first | rfl | (simp [errW_none,errW_some] <;> rfl) | (simp [*,errW_none,errW_some] <;> rfl),hb_⟩
     ·rw [if_neg c78] at H
      have c78b0 : (t28 == t8) = false:=beq_eq_false_iff_ne.mpr c78
      have c78b1 : (t28 != t8) = true:=bne_iff_ne.mpr c78
      obtain rfl:=Option.some.inj H
      have hnb145:=NB9_10.out
      have hnc145:=NB10_9.out
      have hnb146:=NB9_15.out
      have hnc146:=NB15_9.out
      have hnb147:=NB9_20.out
      have hnc147:=NB20_9.out
      have hcz148_0 : wc.cell? ⟨gb9,0,none⟩ = some (.slice Ao10 t1.length co10):=(blk_cell BK9.out 0).trans rfl
      have hfz148_0:=blk_frozen BK9.out 0
      have hnb149:=NB15_10.out
      have hnc149:=NB10_15.out
      have hnb150:=NB15_20.out
      have hnc150:=NB20_15.out
      have hcz151_0 : wc.cell? ⟨gb15,0,none⟩ = some (.slice Ao17 t11.length co17):=(blk_cell BK15.out 0).trans rfl
      have hfz151_0:=blk_frozen BK15.out 0
      try go_wp2_with (first | ((with_reducible refine gate_callee (f:=24) rfl ?_);refine goesL_ (some 65) rfl rfl Try.func24 (by kernel_rfl) rfl #[.agg #[.slice Ao10 t1.length co10],.agg #[.slice Ao17 t11.length co17],.int .i64 t7,.int .i64 t8] rfl lm_ ?_;(with_reducible refine (impl_SetCause.calls _ _ t1 _ _ t11 t7 t8 t23 t26 _ ?side1 ?side2 ?side3 ?side4 A76.out).mono ?_);(case side1=>exact cc_ (Kd.R_reads' Z10.out).2.2);(case side2=>exact (Kd.R_reads' Z10.out).2.1);(case side3=>exact cc_ (Kd.R_reads' Z16.out).2.2);(case side4=>exact (Kd.R_reads' Z16.out).2.1);rintro e w152 ⟨v24,rfl,ho0,hb⟩;refine ⟨_,rfl,?_⟩;have n0_:=rb_ Z10 hb;have n1_:=a0_ (Kd.R_elder' (rr_ Z11.out) (Kd.R_base ho0) hb);have n2_:=a0_ (Kd.R_elder' (rr_ Z16.out) (Kd.R_base ho0) hb);have n3_:=a0_ (Kd.R_elder' (rr_ Z21.out) (Kd.R_base ho0) hb);have n4_:=a0_ (Kd.R_lower (Kd.R_new' (Kd.R_new' (Kd.R_new' ho0 (Kd.R_lt (rr_ Z11.out))) (Kd.R_lt (rr_ Z16.out))) (Kd.R_lt (rr_ Z21.out))) (below_size hb_));have n5_:=kb_ BK9 hb;have n6_:=kb_ BK10 hb;have n7_:=kb_ BK15 hb;have n8_:=kb_ BK20 hb;have n9_:=a0_ (below_step hb_ hb);clear Z10 Z11;clear Z16 Z21;clear BK9 BK10;clear BK15 BK20 HB;have Z10:=n0_;have Z11:=n1_;have Z16:=n2_;have Z21:=n3_;have HO25:=n4_;have BK9:=n5_;have BK10:=n6_;have BK15:=n7_;have BK20:=n8_;have HB:=n9_;clear n0_ n1_ n2_ n3_ n4_ n5_ n6_ n7_ n8_ n9_;(try clear hb);(try clear ho0)) | ((with_reducible refine gate_dst (N:=11) rfl ?_);refine box_event ?hg (N:=11) ?hd (cs:=#[.slice none 0 0]) (t:=28) ?hr ?_;(case hd=>rfl);(case hg=>rfl);(case hr=>first | (go_simp;done) | (go_simp;rfl));intro gb27 hg w153 hbox hb;have n0_:=rb_ Z10 hb;have n1_:=rb_ Z11 hb;have n2_:=rb_ Z16 hb;have n3_:=rb_ Z21 hb;have n4_:=rb_ HO25 hb;have n5_:=kb_ BK9 hb;have n6_:=kb_ BK10 hb;have n7_:=kb_ BK15 hb;have n8_:=kb_ BK20 hb;have n9_:=a0_ (below_step hb_ hb);have n10_:=a0_ (hbox);have n11_:=a0_ ((by rw [hg];exact (below_size hb_) : w.heap.size ≤ gb27));have n12_:=a0_ ((by rw [hg];exact (below_size hb_) : w.heap.size ≤ gb27));have n13_:=a0_ ((by rw [hg];exact Nat.ne_of_lt (blk_lt (bb_ BK9.out)) : gb9 ≠ gb27));have n14_:=a0_ ((by rw [hg];exact Nat.ne_of_gt (blk_lt (bb_ BK9.out)) : gb27 ≠ gb9));have n15_:=a0_ ((by rw [hg];exact Nat.ne_of_lt (blk_lt (bb_ BK10.out)) : gb10 ≠ gb27));have n16_:=a0_ ((by rw [hg];exact Nat.ne_of_gt (blk_lt (bb_ BK10.out)) : gb27 ≠ gb10));have n17_:=a0_ ((by rw [hg];exact Nat.ne_of_lt (blk_lt (bb_ BK15.out)) : gb15 ≠ gb27));have n18_:=a0_ ((by rw [hg];exact Nat.ne_of_gt (blk_lt (bb_ BK15.out)) : gb27 ≠ gb15));have n19_:=a0_ ((by rw [hg];exact Nat.ne_of_lt (blk_lt (bb_ BK20.out)) : gb20 ≠ gb27));have n20_:=a0_ ((by rw [hg];exact Nat.ne_of_gt (blk_lt (bb_ BK20.out)) : gb27 ≠ gb20));clear Z10 Z11;clear Z16 Z21;clear HO25 BK9;clear BK10 BK15;clear BK20 HB;have Z10:=n0_;have Z11:=n1_;have Z16:=n2_;have Z21:=n3_;have HO25:=n4_;have BK9:=n5_;have BK10:=n6_;have BK15:=n7_;have BK20:=n8_;have HB:=n9_;have BK27:=n10_;have GW27:=n11_;have GE27:=n12_;have NB9_27:=n13_;have NB27_9:=n14_;have NB10_27:=n15_;have NB27_10:=n16_;have NB15_27:=n17_;have NB27_15:=n18_;have NB20_27:=n19_;have NB27_20:=n20_;clear n0_ n1_ n2_ n3_ n4_ n5_ n6_ n7_ n8_ n9_ n10_ n11_ n12_ n13_ n14_ n15_ n16_ n17_ n18_ n19_ n20_;clear hb hbox hg;obtain ⟨Ao154,co154,eo154⟩:=Kd.R_slice HO25.out;subst eo154;have hnb155:=NB27_9.out;have hnc155:=NB9_27.out;have hnb156:=NB27_10.out;have hnc156:=NB10_27.out;have hnb157:=NB27_15.out;have hnc157:=NB15_27.out;have hnb158:=NB27_20.out;have hnc158:=NB20_27.out;have hcz159_0 : w153.cell? ⟨gb27,0,none⟩ = some (.slice none 0 0):=(blk_cell BK27.out 0).trans rfl;have hfz159_0:=blk_frozen BK27.out 0))
      have n0_ : Aside0 (Kd.R k87 87 (w153.setCell ⟨gb27,0,none⟩ (.slice Ao154 t23.length co154)) w.heap.size (fun _=>True) (.slice Ao10 t1.length co10) t1):=⟨by (with_reducible repeat (first | apply Kd.R_alloc | apply Kd.R_drewN | apply Kd.R_drew));exact Kd.R_mono (Kd.R_far (p:=⟨gb27,0,none⟩) (Kd.R_types Z10.out BK27.out (by decide)) (fun _ hk=>hk.2) (.slice Ao154 t23.length co154)) (fun _ hk=>trivial)⟩
      have n1_ : Aside0 (Kd.R k43 43 (w153.setCell ⟨gb27,0,none⟩ (.slice Ao154 t23.length co154)) w.heap.size (fun k_=>some k_ ≠ (.slice Ao17 t11.length co17 : Value).ownBlock ∧ some k_ ≠ (.slice Ao25 t16.length co25 : Value).ownBlock ∧ some k_ ≠ (.slice Ao154 t23.length co154 : Value).ownBlock) (.slice Ao13 t4.length co13) t4):=⟨by (with_reducible repeat (first | apply Kd.R_alloc | apply Kd.R_drewN | apply Kd.R_drew));exact Kd.R_mono (Kd.R_far (p:=⟨gb27,0,none⟩) (Kd.R_types Z11.out BK27.out (by decide)) (fun _ hk=>hk.2) (.slice Ao154 t23.length co154)) (fun _ hk=>⟨hk.1.1.1,⟨hk.1.1.2,hk.1.2⟩⟩)⟩
      have n2_ : Aside0 (Kd.R k43 43 (w153.setCell ⟨gb27,0,none⟩ (.slice Ao154 t23.length co154)) w.heap.size (fun k_=>some k_ ≠ (.slice Ao13 t4.length co13 : Value).ownBlock ∧ some k_ ≠ (.slice Ao25 t16.length co25 : Value).ownBlock ∧ some k_ ≠ (.slice Ao154 t23.length co154 : Value).ownBlock) (.slice Ao17 t11.length co17) t11):=⟨by (with_reducible repeat (first | apply Kd.R_alloc | apply Kd.R_drewN | apply Kd.R_drew));exact Kd.R_mono (Kd.R_far (p:=⟨gb27,0,none⟩) (Kd.R_types Z16.out BK27.out (by decide)) (fun _ hk=>hk.2) (.slice Ao154 t23.length co154)) (fun _ hk=>⟨hk.1.1.1,⟨hk.1.1.2,hk.1.2⟩⟩)⟩
      have n3_ : Aside0 (Kd.R k43 43 (w153.setCell ⟨gb27,0,none⟩ (.slice Ao154 t23.length co154)) w.heap.size (fun k_=>some k_ ≠ (.slice Ao13 t4.length co13 : Value).ownBlock ∧ some k_ ≠ (.slice Ao17 t11.length co17 : Value).ownBlock ∧ some k_ ≠ (.slice Ao154 t23.length co154 : Value).ownBlock) (.slice Ao25 t16.length co25) t16):=⟨by (with_reducible repeat (first | apply Kd.R_alloc | apply Kd.R_drewN | apply Kd.R_drew));exact Kd.R_mono (Kd.R_far (p:=⟨gb27,0,none⟩) (Kd.R_types Z21.out BK27.out (by decide)) (fun _ hk=>hk.2) (.slice Ao154 t23.length co154)) (fun _ hk=>⟨hk.1.1.1,⟨hk.1.1.2,hk.1.2⟩⟩)⟩
      have n4_ : Aside0 (Kd.R k43 43 (w153.setCell ⟨gb27,0,none⟩ (.slice Ao154 t23.length co154)) w.heap.size (fun k_=>some k_ ≠ (.slice Ao13 t4.length co13 : Value).ownBlock ∧ some k_ ≠ (.slice Ao17 t11.length co17 : Value).ownBlock ∧ some k_ ≠ (.slice Ao25 t16.length co25 : Value).ownBlock) (.slice Ao154 t23.length co154) t23):=⟨by (with_reducible repeat (first | apply Kd.R_alloc | apply Kd.R_drewN | apply Kd.R_drew));exact Kd.R_mono (Kd.R_far (p:=⟨gb27,0,none⟩) (Kd.R_types HO25.out BK27.out (by decide)) (fun _ hk=>hk.2) (.slice Ao154 t23.length co154)) (fun _ hk=>⟨hk.1.1.1.2,⟨hk.1.1.2,hk.1.2⟩⟩)⟩
      have n5_ : Aside0 ((w153.setCell ⟨gb27,0,none⟩ (.slice Ao154 t23.length co154)).heap[gb9]? = some (.cells #[.slice Ao10 t1.length co10] 25 (0,0))):=⟨by (with_reducible repeat (first | refine blk_drewN ?_ _ | refine blk_drew ?_ | refine blk_alloc ?_ _));refine blk_far ?_ NB9_27.out _;(with_reducible repeat (first | refine blk_drewN ?_ _ | refine blk_drew ?_ | refine blk_alloc ?_ _));exact BK9.out⟩
      have n6_ : Aside0 ((w153.setCell ⟨gb27,0,none⟩ (.slice Ao154 t23.length co154)).heap[gb10]? = some (.cells #[.slice Ao13 t4.length co13] 28 (0,0))):=⟨by (with_reducible repeat (first | refine blk_drewN ?_ _ | refine blk_drew ?_ | refine blk_alloc ?_ _));refine blk_far ?_ NB10_27.out _;(with_reducible repeat (first | refine blk_drewN ?_ _ | refine blk_drew ?_ | refine blk_alloc ?_ _));exact BK10.out⟩
      have n7_ : Aside0 ((w153.setCell ⟨gb27,0,none⟩ (.slice Ao154 t23.length co154)).heap[gb15]? = some (.cells #[.slice Ao17 t11.length co17] 28 (0,0))):=⟨by (with_reducible repeat (first | refine blk_drewN ?_ _ | refine blk_drew ?_ | refine blk_alloc ?_ _));refine blk_far ?_ NB15_27.out _;(with_reducible repeat (first | refine blk_drewN ?_ _ | refine blk_drew ?_ | refine blk_alloc ?_ _));exact BK15.out⟩
      have n8_ : Aside0 ((w153.setCell ⟨gb27,0,none⟩ (.slice Ao154 t23.length co154)).heap[gb20]? = some (.cells #[.slice Ao25 t16.length co25] 28 (0,0))):=⟨by (with_reducible repeat (first | refine blk_drewN ?_ _ | refine blk_drew ?_ | refine blk_alloc ?_ _));refine blk_far ?_ NB20_27.out _;(with_reducible repeat (first | refine blk_drewN ?_ _ | refine blk_drew ?_ | refine blk_alloc ?_ _));exact BK20.out⟩
      have n9_ : Aside0 ((w153.setCell ⟨gb27,0,none⟩ (.slice Ao154 t23.length co154)).heap[gb27]? = some (.cells #[.slice Ao154 t23.length co154] 28 (0,0))):=⟨by (with_reducible repeat (first | refine blk_drewN ?_ _ | refine blk_drew ?_ | refine blk_alloc ?_ _));refine blk_put (cs:=#[.slice none 0 0]) ?_ 0 _ rfl;(with_reducible repeat (first | refine blk_drewN ?_ _ | refine blk_drew ?_ | refine blk_alloc ?_ _));exact BK27.out⟩
      have n10_ : Aside0 (Below w.heap.size w (w153.setCell ⟨gb27,0,none⟩ (.slice Ao154 t23.length co154))):=⟨hb_⟩
      (try clear Z10)
      (try clear Z11)
      (try clear Z16)
      (try clear Z21)
      (try clear HO25)
      (try clear BK9)
      (try clear BK10)
      (try clear BK15)
      (try clear BK20)
      (try clear BK27)
      (try clear HB)
      generalize (w153.setCell ⟨gb27,0,none⟩ (.slice Ao154 t23.length co154)) = w160 at n0_ n1_ n2_ n3_ n4_ n5_ n6_ n7_ n8_ n9_ n10_ ⊢
      have Z10:=n0_
      have Z11:=n1_
      have Z16:=n2_
      have Z21:=n3_
      have HO25:=n4_
      have BK9:=n5_
      have BK10:=n6_
      have BK15:=n7_
      have BK20:=n8_
      have BK27:=n9_
      have HB:=n10_
      clear n0_ n1_ n2_ n3_ n4_ n5_ n6_ n7_ n8_ n9_ n10_
      have n0_:=a0_ (Kd.R_drew Z10.out)
      have n1_:=a0_ (Kd.R_drew Z11.out)
      have n2_:=a0_ (Kd.R_drew Z16.out)
      have n3_:=a0_ (Kd.R_drew Z21.out)
      have n4_:=a0_ (Kd.R_drew HO25.out)
      have n5_:=a0_ (blk_drew BK9.out)
      have n6_:=a0_ (blk_drew BK10.out)
      have n7_:=a0_ (blk_drew BK15.out)
      have n8_:=a0_ (blk_drew BK20.out)
      have n9_:=a0_ (blk_drew BK27.out)
      have n10_:=a0_ (below_drew1 HB.out)
      clear Z10
      clear Z11
      clear Z16
      clear Z21
      clear HO25
      clear BK9
      clear BK10
      clear BK15
      clear BK20
      clear BK27
      clear HB
      have Z10:=n0_
      have Z11:=n1_
      have Z16:=n2_
      have Z21:=n3_
      have HO25:=n4_
      have BK9:=n5_
      have BK10:=n6_
      have BK15:=n7_
      have BK20:=n8_
      have BK27:=n9_
      have HB:=n10_
      clear n0_ n1_ n2_ n3_ n4_ n5_ n6_ n7_ n8_ n9_ n10_
      refine start_ (n:=26) (S:=fun w'=>w'.cell? ⟨gb9,0,none⟩ = some (.slice Ao10 t1.length co10) ∧ w'.cell? ⟨gb15,0,none⟩ = some (.slice Ao17 t11.length co17)) (ds:=[]) #[false,false,false,false,false,false,false,false,false,false,false,false,false,false,false,false,false,false,false,false,false,false,false,false,false,false] (by kernel_rfl) rfl rfl ⟨(blk_cell BK9.out 0).trans rfl,(blk_cell BK15.out 0).trans rfl⟩ (fun hHeld=>?_);refine with_tabW laws_FnSetCause.tab9 laws_FnSetCause.bits9 (fun HT_ HW_=>?_)
      generalize w160.drew = w161 at Z10 Z11 Z16 Z21 HO25 BK9 BK10 BK15 BK20 BK27 HB hHeld ⊢
      refine pure_ (i:=2) (N:=some 70) (v:=?_) (a':=?_) #[false,false,true,false,false,false,false,false,false,false,false,false,false,false,false,false,false,false,false,false,false,false,false,false,false,false] rfl rfl (any_of HT_.out (by kernel_rfl)) (fun _ _ _ h=>h) (Or.inl ⟨by rfl,?_⟩) ?_ ?_
      rotate_left
      ·intro w'
       go_simp
       with_reducible rfl
      rotate_left
      ·simp only [Act.put,s1_,s2_,s3_,i64_w,i32_w]
       rfl
      refine pure_ (i:=4) (N:=some 72) (v:=?_) (a':=?_) #[false,false,true,false,true,false,false,false,false,false,false,false,false,false,false,false,false,false,false,false,false,false,false,false,false,false] rfl rfl (any_of HT_.out (by kernel_rfl)) (fun _ _ _ h=>h) (Or.inl ⟨by rfl,?_⟩) ?_ ?_
      rotate_left
      ·intro w'
       go_simp
       with_reducible rfl
      rotate_left
      ·simp only [Act.put,s1_,s2_,s3_,i64_w,i32_w]
       rfl
      refine take_ (i:=0) (N:=some 68) (v:=?_) (a':=?_) #[true,false,true,false,true,false,false,false,false,false,false,false,false,false,false,false,false,false,false,false,false,false,false,false,false,false] rfl rfl (take_ofW HT_.out HW_.out (by kernel_rfl)) (fun _ _ _ h=>h) (Or.inl ⟨by rfl,?_⟩) hHeld ?_ ?_
      rotate_left
      ·rintro w' ⟨s0,s1⟩
       go_simp
       with_reducible rfl
      rotate_left
      ·simp only [Act.put,s1_,s2_,s3_,i64_w,i32_w]
       rfl
      refine take_ (i:=1) (N:=some 69) (v:=?_) (a':=?_) #[true,true,true,false,true,false,false,false,false,false,false,false,false,false,false,false,false,false,false,false,false,false,false,false,false,false] rfl rfl (take_ofW HT_.out HW_.out (by kernel_rfl)) (fun _ _ _ h=>h) (Or.inl ⟨by rfl,?_⟩) hHeld ?_ ?_
      rotate_left
      ·rintro w' ⟨s0,s1⟩
       go_simp
       with_reducible rfl
      rotate_left
      ·simp only [Act.put,s1_,s2_,s3_,i64_w,i32_w]
       rfl
      refine one_ (i:=3) (N:=some 71) #[true,true,true,true,true,false,false,false,false,false,false,false,false,false,false,false,false,false,false,false,false,false,false,false,false,false] rfl rfl (one_of HT_.out (by kernel_rfl)) (by decide) (fun K hK=>?_)
      refine goes_ Try.func14 (by kernel_rfl) rfl #[.agg #[.slice Ao10 t1.length co10],.agg #[.slice Ao17 t11.length co17],.int .i64 t7] (by rfl) rfl rfl lm_ ?_
      with_reducible refine (impl_ShownNext.calls _ _ t1 _ _ t11 t7 t28 _ ?side1 ?side2 ?side3 ?side4 A77.out).mono ?_
      (case side1=>exact cc_ (Kd.R_reads' Z10.out).2.2)
      (case side2=>exact (Kd.R_reads' Z10.out).2.1)
      (case side3=>exact cc_ (Kd.R_reads' Z16.out).2.2)
      (case side4=>exact (Kd.R_reads' Z16.out).2.1)
      rintro e w162 ⟨rfl,hb⟩
      refine ⟨_,rfl,?_⟩
      have n0_:=rb_ Z10 hb
      have n1_:=rb_ Z11 hb
      have n2_:=rb_ Z16 hb
      have n3_:=rb_ Z21 hb
      have n4_:=rb_ HO25 hb
      have n5_:=kb_ BK9 hb
      have n6_:=kb_ BK10 hb
      have n7_:=kb_ BK15 hb
      have n8_:=kb_ BK20 hb
      have n9_:=kb_ BK27 hb
      have n10_:=a0_ (below_step hb_ hb)
      clear Z10
      clear Z11
      clear Z16
      clear Z21
      clear HO25
      clear BK9
      clear BK10
      clear BK15
      clear BK20
      clear BK27
      clear HB
      have Z10:=n0_
      have Z11:=n1_
      have Z16:=n2_
      have Z21:=n3_
      have HO25:=n4_
      have BK9:=n5_
      have BK10:=n6_
      have BK15:=n7_
      have BK20:=n8_
      have BK27:=n9_
      have HB:=n10_
      clear n0_ n1_ n2_ n3_ n4_ n5_ n6_ n7_ n8_ n9_ n10_
      (try clear hb)
      (try clear hb2)
      (try clear hk)
      (try clear hi)
      refine hK.out _ _ ⟨(blk_cell BK9.out 0).trans rfl,(blk_cell BK15.out 0).trans rfl⟩ (fun hHeld=>?_)
      clear hK K
      refine norm_ (a':=?_) ?_ ?_
      rotate_left
      ·show Act.put _ (some 71) _ = _
       simp only [Act.put,s1_,s2_,s3_,i64_w,i32_w]
       rfl
      refine pure_ (i:=5) (N:=some 73) (v:=?_) (a':=?_) #[true,true,true,true,true,true,false,false,false,false,false,false,false,false,false,false,false,false,false,false,false,false,false,false,false,false] rfl rfl (any_of HT_.out (by kernel_rfl)) (fun _ _ _ h=>h) (Or.inl ⟨by rfl,?_⟩) ?_ ?_
      rotate_left
      ·intro w'
       go_simp
       with_reducible rfl
      rotate_left
      ·simp only [Act.put,s1_,s2_,s3_,i64_w,i32_w]
       rfl
      refine pure_ (i:=6) (N:=some 74) (v:=?_) (a':=?_) #[true,true,true,true,true,true,true,false,false,false,false,false,false,false,false,false,false,false,false,false,false,false,false,false,false,false] rfl rfl (any_of HT_.out (by kernel_rfl)) (fun _ _ _ h=>h) (Or.inl ⟨by rfl,?_⟩) ?_ ?_
      rotate_left
      ·intro w'
       go_simp
       with_reducible rfl
      rotate_left
      ·simp only [Act.put,s1_,s2_,s3_,i64_w,i32_w]
       rfl
      refine pure_ (i:=7) (N:=some 75) (v:=undef) (a':=?_) #[true,true,true,true,true,true,true,true,false,false,false,false,false,false,false,false,false,false,false,false,false,false,false,false,false,false] rfl rfl (any_of HT_.out (by kernel_rfl)) (fun _ _ _ h=>h) (Or.inr ⟨by rfl,rfl⟩) ?_ ?_
      rotate_left
      ·simp only [Act.put,s1_,s2_,s3_,i64_w,i32_w]
       rfl
      refine pure_ (i:=8) (N:=some 76) (v:=?_) (a':=?_) #[true,true,true,true,true,true,true,true,true,false,false,false,false,false,false,false,false,false,false,false,false,false,false,false,false,false] rfl rfl (any_of HT_.out (by kernel_rfl)) (fun _ _ _ h=>h) (Or.inl ⟨by rfl,?_⟩) ?_ ?_
      rotate_left
      ·intro w'
       go_simp
       with_reducible rfl
      rotate_left
      ·simp only [Act.put,s1_,s2_,s3_,i64_w,i32_w]
       rfl
      refine pure_ (i:=9) (N:=some 77) (v:=?_) (a':=?_) #[true,true,true,true,true,true,true,true,true,true,false,false,false,false,false,false,false,false,false,false,false,false,false,false,false,false] rfl rfl (any_of HT_.out (by kernel_rfl)) (fun _ _ _ h=>h) (Or.inl ⟨by rfl,?_⟩) ?_ ?_
      rotate_left
      ·intro w'
       go_simp
       with_reducible rfl
      rotate_left
      ·simp only [Act.put,s1_,s2_,s3_,i64_w,i32_w]
       rfl
      refine pure_ (i:=10) (N:=some 78) (v:=undef) (a':=?_) #[true,true,true,true,true,true,true,true,true,true,true,false,false,false,false,false,false,false,false,false,false,false,false,false,false,false] rfl rfl (any_of HT_.out (by kernel_rfl)) (fun _ _ _ h=>h) (Or.inr ⟨by rfl,rfl⟩) ?_ ?_
      rotate_left
      ·simp only [Act.put,s1_,s2_,s3_,i64_w,i32_w]
       rfl
      refine pure_ (i:=11) (N:=some 79) (v:=undef) (a':=?_) #[true,true,true,true,true,true,true,true,true,true,true,true,false,false,false,false,false,false,false,false,false,false,false,false,false,false] rfl rfl (any_of HT_.out (by kernel_rfl)) (fun _ _ _ h=>h) (Or.inr ⟨by rfl,rfl⟩) ?_ ?_
      rotate_left
      ·simp only [Act.put,s1_,s2_,s3_,i64_w,i32_w]
       rfl
      refine pure_ (i:=12) (N:=some 80) (v:=undef) (a':=?_) #[true,true,true,true,true,true,true,true,true,true,true,true,true,false,false,false,false,false,false,false,false,false,false,false,false,false] rfl rfl (any_of HT_.out (by kernel_rfl)) (fun _ _ _ h=>h) (Or.inr ⟨by rfl,rfl⟩) ?_ ?_
      rotate_left
      ·simp only [Act.put,s1_,s2_,s3_,i64_w,i32_w]
       rfl
      refine pure_ (i:=13) (N:=some 81) (v:=?_) (a':=?_) #[true,true,true,true,true,true,true,true,true,true,true,true,true,true,false,false,false,false,false,false,false,false,false,false,false,false] rfl rfl (any_of HT_.out (by kernel_rfl)) (fun _ _ _ h=>h) (Or.inl ⟨by rfl,?_⟩) ?_ ?_
      rotate_left
      ·intro w'
       go_simp
       with_reducible rfl
      rotate_left
      ·simp only [Act.put,s1_,s2_,s3_,i64_w,i32_w]
       rfl
      refine pure_ (i:=14) (N:=some 82) (v:=?_) (a':=?_) #[true,true,true,true,true,true,true,true,true,true,true,true,true,true,true,false,false,false,false,false,false,false,false,false,false,false] rfl rfl (any_of HT_.out (by kernel_rfl)) (fun _ _ _ h=>h) (Or.inl ⟨by rfl,?_⟩) ?_ ?_
      rotate_left
      ·intro w'
       go_simp
       with_reducible rfl
      rotate_left
      ·simp only [Act.put,s1_,s2_,s3_,i64_w,i32_w]
       rfl
      refine pure_ (i:=15) (N:=some 83) (v:=undef) (a':=?_) #[true,true,true,true,true,true,true,true,true,true,true,true,true,true,true,true,false,false,false,false,false,false,false,false,false,false] rfl rfl (any_of HT_.out (by kernel_rfl)) (fun _ _ _ h=>h) (Or.inr ⟨by rfl,rfl⟩) ?_ ?_
      rotate_left
      ·simp only [Act.put,s1_,s2_,s3_,i64_w,i32_w]
       rfl
      refine pure_ (i:=16) (N:=some 84) (v:=undef) (a':=?_) #[true,true,true,true,true,true,true,true,true,true,true,true,true,true,true,true,true,false,false,false,false,false,false,false,false,false] rfl rfl (any_of HT_.out (by kernel_rfl)) (fun _ _ _ h=>h) (Or.inr ⟨by rfl,rfl⟩) ?_ ?_
      rotate_left
      ·simp only [Act.put,s1_,s2_,s3_,i64_w,i32_w]
       rfl
      refine pure_ (i:=17) (N:=some 85) (v:=undef) (a':=?_) #[true,true,true,true,true,true,true,true,true,true,true,true,true,true,true,true,true,true,false,false,false,false,false,false,false,false] rfl rfl (any_of HT_.out (by kernel_rfl)) (fun _ _ _ h=>h) (Or.inr ⟨by rfl,rfl⟩) ?_ ?_
      rotate_left
      ·simp only [Act.put,s1_,s2_,s3_,i64_w,i32_w]
       rfl
      refine pure_ (i:=18) (N:=some 86) (v:=undef) (a':=?_) #[true,true,true,true,true,true,true,true,true,true,true,true,true,true,true,true,true,true,true,false,false,false,false,false,false,false] rfl rfl (any_of HT_.out (by kernel_rfl)) (fun _ _ _ h=>h) (Or.inr ⟨by rfl,rfl⟩) ?_ ?_
      rotate_left
      ·simp only [Act.put,s1_,s2_,s3_,i64_w,i32_w]
       rfl
      refine pure_ (i:=19) (N:=some 87) (v:=undef) (a':=?_) #[true,true,true,true,true,true,true,true,true,true,true,true,true,true,true,true,true,true,true,true,false,false,false,false,false,false] rfl rfl (any_of HT_.out (by kernel_rfl)) (fun _ _ _ h=>h) (Or.inr ⟨by rfl,rfl⟩) ?_ ?_
      rotate_left
      ·simp only [Act.put,s1_,s2_,s3_,i64_w,i32_w]
       rfl
      refine pure_ (i:=20) (N:=some 88) (v:=undef) (a':=?_) #[true,true,true,true,true,true,true,true,true,true,true,true,true,true,true,true,true,true,true,true,true,false,false,false,false,false] rfl rfl (any_of HT_.out (by kernel_rfl)) (fun _ _ _ h=>h) (Or.inr ⟨by rfl,rfl⟩) ?_ ?_
      rotate_left
      ·simp only [Act.put,s1_,s2_,s3_,i64_w,i32_w]
       rfl
      refine pure_ (i:=21) (N:=some 89) (v:=undef) (a':=?_) #[true,true,true,true,true,true,true,true,true,true,true,true,true,true,true,true,true,true,true,true,true,true,false,false,false,false] rfl rfl (any_of HT_.out (by kernel_rfl)) (fun _ _ _ h=>h) (Or.inr ⟨by rfl,rfl⟩) ?_ ?_
      rotate_left
      ·simp only [Act.put,s1_,s2_,s3_,i64_w,i32_w]
       rfl
      refine pure_ (i:=22) (N:=some 90) (v:=undef) (a':=?_) #[true,true,true,true,true,true,true,true,true,true,true,true,true,true,true,true,true,true,true,true,true,true,true,false,false,false] rfl rfl (any_of HT_.out (by kernel_rfl)) (fun _ _ _ h=>h) (Or.inr ⟨by rfl,rfl⟩) ?_ ?_
      rotate_left
      ·simp only [Act.put,s1_,s2_,s3_,i64_w,i32_w]
       rfl
      refine pure_ (i:=23) (N:=some 91) (v:=undef) (a':=?_) #[true,true,true,true,true,true,true,true,true,true,true,true,true,true,true,true,true,true,true,true,true,true,true,true,false,false] rfl rfl (any_of HT_.out (by kernel_rfl)) (fun _ _ _ h=>h) (Or.inr ⟨by rfl,rfl⟩) ?_ ?_
      rotate_left
      ·simp only [Act.put,s1_,s2_,s3_,i64_w,i32_w]
       rfl
      refine pure_ (i:=24) (N:=some 92) (v:=?_) (a':=?_) #[true,true,true,true,true,true,true,true,true,true,true,true,true,true,true,true,true,true,true,true,true,true,true,true,true,false] rfl rfl (any_of HT_.out (by kernel_rfl)) (fun _ _ _ h=>h) (Or.inl ⟨by rfl,?_⟩) ?_ ?_
      rotate_left
      ·intro w'
       go_simp
       with_reducible rfl
      rotate_left
      ·simp only [Act.put,s1_,s2_,s3_,i64_w,i32_w]
       rfl
      refine pure_ (i:=25) (N:=some 2) (v:=?_) (a':=?_) #[true,true,true,true,true,true,true,true,true,true,true,true,true,true,true,true,true,true,true,true,true,true,true,true,true,true] rfl rfl (any_of HT_.out (by kernel_rfl)) (fun _ _ _ h=>h) (Or.inl ⟨by rfl,?_⟩) ?_ ?_
      rotate_left
      ·intro w'
       go_simp
       with_reducible rfl
      rotate_left
      ·simp only [Act.put,s1_,s2_,s3_,i64_w,i32_w]
       rfl
      refine done_ (done_of HT_.out (by kernel_rfl)) ?_
      try go_wp2
      go_ret
      exact ⟨by first | rfl | (simp [errW_none,errW_some] <;> rfl) | (simp [*,errW_none,errW_some] <;> rfl),hb_⟩
def laws_FnSetCause.Pure : Prop:=∀ (l0 : List Int),l0.length ≤ maxLen → l0.length * 1 ≤ 140737488351232 → (∀ x ∈ l0,(Lit.int .u8 x).wf = true) → ∃ k,laws_FnSetCause.f k l0 = some true
theorem laws_FnSetCause.walk (P : laws_FnSetCause.Pure) (a0 : Option Addr) (len0 cap0 : Nat) (z0 : List Int) (w : World) (w0 : (a0 = none ∧ len0 = 0 ∧ cap0 = 0 ∧ z0 = []) ∨ ∃ x,a0 = some x ∧ len0 ≤ cap0 ∧ cap0 ≤ maxLen ∧ z0.length = cap0 ∧ (∀ i,i < z0.length → w.cell? (x.add i) = some (.int .u8 (z0.getD i 0))) ∧ ∀ n ∈ z0,(Lit.int .u8 n).wf = true) (y0 : len0 * 1 ≤ 140737488351232) :
  Calls Try.prog 6 #[.slice a0 len0 cap0] w fun e w'=>e = .returned (.bool true) ∧ Below w.heap.size w w':=by
 obtain ⟨l0,rfl,hr0,hm0,hw0,hc0⟩:=ReadsInt.ofRowC w0
 obtain ⟨k,h⟩:=P l0 hm0 y0 hw0
 refine (laws_FnSetCause.calls k _ _ l0 true w (Kd.C_of_reads (d:=(0 : Int)) (h1:=fun _=>rfl) hr0) hc0 h).mono ?_
 rintro e w' ⟨rfl,hd⟩
 exact ⟨rfl,hd⟩
end Go.Proofs.Ytmiholmfbjalfaa.P
namespace Go.Proofs.Ytmiholmfbjalfaa.P
open Go.RowKit Go.Proofs.YtmiholmfbjalfaaW.PrintWords Go.Proofs.YtmiholmfbjalfaaW.PrintLast Go.Proofs.YtmiholmfbjalfaaW.PrintMore
attribute [local go_sem] max2_int min2_int max_two min_two max_three min_three max_four min_four
set_option linter.unusedVariables false
set_option linter.unusedSimpArgs false
theorem chain_link (next : Int → Int) : ∀ (d : Nat) (out : List Int) (x : Int) (k : Nat),k + 1 < (chainL next d out x).length → (chainL next d out x).getD (k + 1) 0 = next ((chainL next d out x).getD k 0):=by
 intro d
 induction d with
 | zero=>intro out x k hk;simp [chainL] at hk
 | succ d ih =>
  intro out x k hk
  rw [chainL] at hk ⊢
  by_cases hc : 0 ≤ x ∧ out.contains x = false
  ·rw [if_pos hc] at hk ⊢
   rw [List.length_cons] at hk
   cases k with
   | zero =>
    cases d with
    | zero=>simp [chainL] at hk
    | succ d =>
     rw [chainL] at hk ⊢
     by_cases hc2 : 0 ≤ next x ∧ (out ++ [x]).contains (next x) = false
     ·rw [if_pos hc2]
      simp
     ·rw [if_neg hc2] at hk
      simp at hk
   | succ k=>exact ih (out ++ [x]) (next x) k (by omega)
  ·rw [if_neg hc] at hk
   simp at hk
theorem chain_nodup (next : Int → Int) : ∀ (d : Nat) (out : List Int) (x : Int),(chainL next d out x).Nodup:=by
 intro d
 induction d with
 | zero=>intro out x;exact List.nodup_nil
 | succ d ih =>
  intro out x
  rw [chainL]
  split
  ·refine List.nodup_cons.2 ⟨fun hm=>?_,ih _ _⟩
   have:=(chain_mem next d (out ++ [x]) (next x) x hm).2
   rw [show (out ++ [x]).contains x = true by rw [List.contains_iff_mem];simp] at this
   cases this
  ·exact List.nodup_nil
theorem chain_last (next : Int → Int) (N : Nat) (hn : ∀ x : Int,0 ≤ x → x < (N : Int) → next x < (N : Int)) : ∀ (d : Nat) (out : List Int) (x : Int),x < (N : Int) → restN N out ≤ d → chainL next d out x ≠ [] → next (lastI (chainL next d out x)) < 0 ∨ next (lastI (chainL next d out x)) ∈ out ++ chainL next d out x:=by
 intro d
 induction d with
 | zero=>intro out x _ _ hne;exact absurd rfl hne
 | succ d ih =>
  intro out x hx hr hne
  rw [chainL] at hne ⊢
  by_cases hc : 0 ≤ x ∧ out.contains x = false
  ·rw [if_pos hc] at hne ⊢
   have hlt:=restN_lt hc.1 hx hc.2
   cases hq : chainL next d (out ++ [x]) (next x) with
   | nil =>
    have e : lastI [x] = x:=by simp [lastI]
    rw [e]
    by_cases h0 : 0 ≤ next x
    ·right
     have hin : (out ++ [x]).contains (next x) = true:=by
      cases hz : (out ++ [x]).contains (next x) with
      | true=>rfl
      | false =>
       cases d with
       | zero =>
        have:=restN_zero (n:=N) (out:=out ++ [x]) h0 (hn x hc.1 hx) (by omega)
        rw [this] at hz
        cases hz
       | succ d =>
        rw [chainL,if_pos ⟨h0,hz⟩] at hq
        cases hq
     rwa [List.contains_iff_mem] at hin
    ·left;omega
   | cons z r =>
    rw [lastI_cons,← hq]
    rcases ih (out ++ [x]) (next x) (hn x hc.1 hx) (by omega) (by rw [hq];simp) with h2 | h2
    ·exact Or.inl h2
    ·right
     rw [List.append_assoc] at h2
     exact h2
  ·rw [if_neg hc] at hne
   exact absurd rfl hne
theorem shwL_chain (h : List Fau) (f : Int) : shwL h f = chainL (shwN h) h.length [] f:=by
 unfold shwL
 rw [walkL_chain]
 rfl
section
variable {t : List Cls} {h : List Fau} {f : Int}
theorem shw_rng (hv : vH t h = true) (x : Int) (h0 : 0 ≤ x) (h1 : x < (h.length : Int)) : -1 ≤ shwN h x ∧ shwN h x < (h.length : Int):=fsH_shw (vH_parts hv).1 x h0 h1
theorem shw_head (h0 : 0 ≤ f) (h1 : f < (h.length : Int)) : (shwL h f).getD 0 0 = f:=by
 rw [shwL_chain]
 obtain ⟨n,hn⟩ : ∃ n,h.length = n + 1:=⟨h.length - 1,by omega⟩
 rw [hn,chainL,if_pos ⟨h0,by simp⟩]
 rfl
theorem shw_link (k : Nat) (hk : k + 1 < (shwL h f).length) : (shwL h f).getD (k + 1) 0 = shwN h ((shwL h f).getD k 0):=by
 rw [shwL_chain] at hk ⊢
 exact chain_link _ _ _ _ k hk
theorem shw_new (k : Nat) (hk : k < (shwL h f).length) : ((shwL h f).take k).contains ((shwL h f).getD k 0) = false:=by
 cases hq : ((shwL h f).take k).contains ((shwL h f).getD k 0) with
 | false=>rfl
 | true =>
  rw [List.contains_iff_mem,List.mem_take_iff_getElem] at hq
  obtain ⟨j,hj,e⟩:=hq
  have hnd:=chain_nodup (shwN h) h.length [] f
  rw [← shwL_chain] at hnd
  rw [List.getD_eq_getElem?_getD,List.getElem?_eq_getElem hk] at e
  have:=(List.getElem_inj hnd).1 e
  omega
theorem shw_last (hv : vH t h = true) (h0 : 0 ≤ f) (h1 : f < (h.length : Int)) : shwN h (lastI (shwL h f)) = -1 ∨ (shwL h f).contains (shwN h (lastI (shwL h f))) = true:=by
 have hp:=shwL_pos h f h0 h1
 have hm:=shwL_mem (fun x a b=>(shw_rng hv x a b).2) f h1 _ (lastI_mem hp)
 have hr:=shw_rng hv _ hm.1 hm.2
 have hc:=chain_last (shwN h) h.length (fun x a b=>(shw_rng hv x a b).2) h.length [] f h1 (restN_le _ _)
 rw [← shwL_chain] at hc
 rcases hc (fun hh=>by rw [hh] at hp;simp at hp) with h2 | h2
 ·left;omega
 ·right;rw [List.contains_iff_mem];exact h2
theorem ctx_last (hv : vH t h = true) (h0 : 0 ≤ f) (h1 : f < (h.length : Int)) : ctxN h (lastI (ctxL h f)) = -1:=by
 have hp:=ctxL_pos h f h0 h1
 have hm:=ctxL_mem (fun x a b=>(fsH_ctx (vH_parts hv).1 x a b).2) f h1 _ (lastI_mem hp)
 have hr:=fsH_ctx (vH_parts hv).1 _ hm.1 hm.2
 have:=all_at (vH_parts hv).2.1 f.toNat (by omega)
 unfold endB at this
 rw [show ((f.toNat : Nat) : Int) = f by omega] at this
 have:=of_decide_eq_true this
 omega
theorem ctx_head (h0 : 0 ≤ f) (h1 : f < (h.length : Int)) : (ctxL h f).getD 0 0 = f:=by
 unfold ctxL
 rw [walkL_chain]
 obtain ⟨n,hn⟩ : ∃ n,h.length = n + 1:=⟨h.length - 1,by omega⟩
 rw [hn,chainL,if_pos ⟨h0,by simp⟩]
 rfl
end
theorem hasF_mk {h : List Fau} {f : Int} (h0 : 0 ≤ f) (h1 : f < (h.length : Int)) : hasF h f = true:=by
 unfold hasF
 rw [Bool.and_eq_true,decide_eq_true_eq,decide_eq_true_eq]
 omega
theorem good_mk {t : List Cls} {h : List Fau} {f : Int} (hv : vH t h = true) (h0 : 0 ≤ f) (h1 : f < (h.length : Int)) : (vH t h && hasF h f) = true:=by
 rw [hv,hasF_mk h0 h1]
 rfl
end Go.Proofs.Ytmiholmfbjalfaa.P
namespace Go.Proofs.Ytmiholmfbjalfaa.Pure
open Go.RowKit Go.Proofs.Ytmiholmfbjalfaa.P
open Go.Proofs.YtmiholmfbjalfaaW.PrintWords (rd rdOf wrap_succ wrap_pred wrap_in toL_beq idxP)
set_option linter.unusedVariables false
theorem FnSetCause : laws_FnSetCause.Pure:=by
 intro l0 _ _ hw
 refine Ev.out (F:=fun k=>laws_FnSetCause.f k l0) ?_
 unfold laws_FnSetCause.f
 by_cases hbig : (l0.length : Int) > 1048576
 ·exact Ev.pos hbig (Ev.const rfl)
 refine Ev.neg hbig ?_
 obtain ⟨t,h,f,c,hd,ht,hs,hh⟩:=spec_DrawSetCause_ev l0 hw
 have hI:=impl_SetCause_ev t h f c hs (by omega)
 have hS:=spec_SetCause_ev t h f c hs (by omega) (by omega)
 by_cases hc : ((vH t h && hasF h f) && ((c == -1) || (hasF h c && !(c == f)))) = true
 ·obtain ⟨o,ho⟩ : ∃ o : List Fau,o = h.set f.toNat ⟨(fauAt h f).f0,(fauAt h f).f1,c,(fauAt h f).f3,true⟩:=⟨_,rfl⟩
  have hr : cauP t h f c = (o,true):=by unfold cauP;rw [if_pos hc,ho]
  rw [hr] at hI hS
  have hl : o.length = h.length:=by rw [ho,List.length_set]
  rw [Bool.and_eq_true] at hc
  obtain ⟨_,h0,h1⟩:=good_parts hc.1
  have hv:=(Bool.and_eq_true _ _ ▸ hc.1).1
  have hcl : c = -1 ∨ (0 ≤ c ∧ c < (h.length : Int) ∧ c ≠ f):=by
   have:=hc.2
   rw [Bool.or_eq_true,Bool.and_eq_true] at this
   rcases this with h2 | h2
   ·left;simpa using h2
   ·right
    have h3:=hasF_in h2.1
    refine ⟨h3.1,h3.2,?_⟩
    simpa using h2.2
  have hlk : lnkB h f c = true:=by
   rcases hcl with h2 | ⟨h2,h3,h4⟩
   ·unfold lnkB;rw [h2];rfl
   ·exact lnk_of h2 h3 (fun e=>h4 e.symm)
  have hv2 : vH t o = true:=by rw [ho];exact vH_cause hv f c true h0 h1 hlk
  have hof : fauAt o f = ⟨(fauAt h f).f0,(fauAt h f).f1,c,(fauAt h f).f3,true⟩:=by rw [ho];exact fauAt_set_eq h0 h1
  have ha : cauP t o f c = (o,true):=by
   unfold cauP
   rw [if_pos,hof]
   ·rw [ho,List.set_set]
   ·have e : ∀ x,hasF o x = hasF h x:=fun x=>by unfold hasF;rw [hl]
    rw [hv2,e,e]
    have h2:=hc.1
    rw [Bool.and_eq_true] at h2
    rw [h2.2,hc.2]
    rfl
  have hI2:=impl_SetCause_ev t o f c hs (by omega)
  rw [ha] at hI2
  have hN:=impl_ShownNext_ev t o f hs (by omega)
  have hgo : (vH t o && hasF o f) = true:=good_mk hv2 h0 (by rw [hl];exact h1)
  have hn : shwP t o f = c:=by
   unfold shwP
   rw [if_pos hgo]
   unfold shwN
   have : o.getD f.toNat z43 = fauAt o f:=rfl
   rw [this,hof]
   simp only
   rcases hcl with h2 | ⟨h2,h3,h4⟩
   ·rw [if_neg (by omega),if_pos trivial,h2]
   ·rw [if_pos h2]
  rw [hn] at hN
  have hC:=impl_ContextChain_ev t h f hs (by omega)
  have hC2:=impl_ContextChain_ev t o f hs (by omega)
  have c1 : ctxP t h f = ctxL h f:=by unfold ctxP;rw [if_pos hc.1]
  have c2 : ctxP t o f = ctxL h f:=by
   unfold ctxP
   rw [if_pos hgo,ho]
   refine ctxL_set f _ h0 h1 ?_ f
   rfl
  rw [c1] at hC
  rw [c2] at hC2
  have n1:=ctxL_len h f
  refine Ev.bind hd (Ev.bind (Ev.const hI) (Ev.bind hS (Ev.bind (laws_equalHeap_ev _ (show o.length ≤ 9223372036854775806 by omega)) (Ev.pos rfl (Ev.neg (by simp) (Ev.succ ?_))))))
  simp only [laws_FnSetCause.j0]
  exact Ev.neg (by simp) (Ev.bind (Ev.const hI2) (Ev.bind (Ev.const hN) (Ev.pos rfl (Ev.pos rfl (Ev.bind (laws_equalHeap_ev _ (show o.length ≤ 9223372036854775806 by omega)) (Ev.pos rfl (Ev.bind (Ev.const hC2) (Ev.bind (Ev.const hC) (Ev.bind (laws_equalInts_ev _ (by omega)) (Ev.const rfl))))))))))
 ·have hr : cauP t h f c = ([],false):=by unfold cauP;rw [if_neg hc]
  rw [hr] at hI hS
  refine Ev.bind hd (Ev.bind (Ev.const hI) (Ev.bind hS (Ev.bind (laws_equalHeap_ev _ (by simp)) (Ev.pos rfl (Ev.neg (by simp) (Ev.succ ?_))))))
  simp only [laws_FnSetCause.j0]
  exact Ev.pos (by rfl) (Ev.bind (laws_equalHeap_ev _ (by simp)) (Ev.pos rfl (Ev.const rfl)))
end Go.Proofs.Ytmiholmfbjalfaa.Pure
