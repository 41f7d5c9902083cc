/- Texts under the proof of FnNewFault: helper words, the functions' contracts and the plain laws. No condition. -/
import Derived.Test.YtmiholmfbjalfaaQFnNewFaulta
import Derived.Test.YtmiholmfbjalfaaQFnNewFaultb
import Derived.Test.YtmiholmfbjalfaaQFnNewFaultc
namespace Go.Proofs.Ytmiholmfbjalfaa.P
open Go.RowKit Go.Proofs.YtmiholmfbjalfaaW.PrintWords Go.Proofs.YtmiholmfbjalfaaW.PrintLast Go.Proofs.YtmiholmfbjalfaaW.PrintMore
attribute [local go_sem] max2_int min2_int max_two min_two max_three min_three max_four min_four
set_option linter.unusedVariables false
set_option linter.unusedSimpArgs false
def spec_someHeap.f (k : Nat) (s0_0 : List Int) (s0_1 : Int) : Option ((List (S87)) × (List (S43)) × Int):=(spec_someTree.f k s0_0 s0_1).bind fun bt3=>((spec_goodHeap.f k s0_0 bt3.2 bt3.1).bind fun bt8=>(if (bt8.1.length : Int) > 0 then ((spec_reader_pick.f k s0_0 bt8.2 (bt8.1.length : Int)).bind fun bt13=>((spec_reader_pick.f k s0_0 bt13.2 24).bind fun bt15=>(if bt15.1 = 0 then ((spec_reader_one.f k s0_0 bt15.2 (([bt13.1,9,(-2)] : List Int))).bind fun bt20=>(if 0 ≤ bt13.1 then (if bt13.1 < (bt8.1.length : Int) then (some (bt3.1,(bt8.1.set (bt13.1 : Int).toNat (⟨(rd_T43 bt8.1 bt13.1).f0,(rd_T43 bt8.1 bt13.1).f1,(rd_T43 bt8.1 bt13.1).f2,bt20.1,(rd_T43 bt8.1 bt13.1).f4⟩ : S43)),bt20.2)) else (none)) else (none))) else (if bt15.1 = 1 then ((spec_aClass.f k s0_0 bt15.2 bt3.1).bind fun bt23=>(if 0 ≤ bt13.1 then (if bt13.1 < (bt8.1.length : Int) then (some (bt3.1,(bt8.1.set (bt13.1 : Int).toNat (⟨bt23.1,(rd_T43 bt8.1 bt13.1).f1,(rd_T43 bt8.1 bt13.1).f2,(rd_T43 bt8.1 bt13.1).f3,(rd_T43 bt8.1 bt13.1).f4⟩ : S43)),bt23.2)) else (none)) else (none))) else (if bt15.1 = 2 then ((spec_reader_one.f k s0_0 bt15.2 (([(-1),100] : List Int))).bind fun bt29=>(if 0 ≤ bt13.1 then (if bt13.1 < (bt8.1.length : Int) then (some (bt3.1,(bt8.1.set (bt13.1 : Int).toNat (⟨(rd_T43 bt8.1 bt13.1).f0,bt29.1,(rd_T43 bt8.1 bt13.1).f2,(rd_T43 bt8.1 bt13.1).f3,(rd_T43 bt8.1 bt13.1).f4⟩ : S43)),bt29.2)) else (none)) else (none))) else (if bt15.1 = 3 then ((spec_reader_one.f k s0_0 bt15.2 (([bt13.1,24,0] : List Int))).bind fun bt35=>(if 0 ≤ bt13.1 then (if bt13.1 < (bt8.1.length : Int) then (some (bt3.1,(bt8.1.set (bt13.1 : Int).toNat (⟨(rd_T43 bt8.1 bt13.1).f0,(rd_T43 bt8.1 bt13.1).f1,bt35.1,(rd_T43 bt8.1 bt13.1).f3,(rd_T43 bt8.1 bt13.1).f4⟩ : S43)),bt35.2)) else (none)) else (none))) else (some (bt3.1,bt8.1,bt15.2)))))))) else (some (bt3.1,bt8.1,bt8.2))))
theorem spec_someHeap.mono : ∀ a0 a1 k,LeO (spec_someHeap.f k a0 a1) (spec_someHeap.f (k + 1) a0 a1):=by
 intro a0 a1 k
 unfold spec_someHeap.f
 repeat' first
   | (with_reducible exact spec_aClass.mono _ _ _ _)
   | (with_reducible exact spec_goodHeap.mono _ _ _ _)
   | (with_reducible exact spec_reader_one.mono _ _ _ _)
   | (with_reducible exact spec_reader_pick.mono _ _ _ _)
   | (with_reducible exact spec_someTree.mono _ _ _)
   | (with_reducible exact LeO.refl _)
   | (with_reducible exact LeO.none _)
   | (with_reducible refine LeO.ite ?_ ?_)
   | (with_reducible refine LeO.bind ?_ (fun _=>?_))
   | exact spec_aClass.mono _ _ _ _
   | exact spec_goodHeap.mono _ _ _ _
   | exact spec_reader_one.mono _ _ _ _
   | exact spec_reader_pick.mono _ _ _ _
   | exact spec_someTree.mono _ _ _
   | exact LeO.none _
   | refine LeO.ite ?_ ?_
   | refine LeO.bind ?_ (fun _=>?_)
def spec_someHeap.T7 : Bool × List (List Nat × List Nat):=(true,[([],[]),([0],[0]),([],[]),([],[]),([],[]),([4],[4]),([3,5],[3,5]),([1,2,0,1,2,3,4,5,6],[1,2]),([7,0,1,2,3,4,5,6],[7]),([8,6,6,0,1,2,3,4,5,6],[6,8])])
def spec_someHeap.B7 : List Nat:=[0,1,0,0,0,16,56,127,255,511]
theorem spec_someHeap.tab7 : rtab .any (opsOf Try.f40 7) = spec_someHeap.T7:=by kernel_rfl
theorem spec_someHeap.bits7 : waitsOk spec_someHeap.T7.2 spec_someHeap.B7 = true:=by kernel_rfl
def spec_someHeap.T9 : Bool × List (List Nat × List Nat):=(true,[([],[]),([0],[0]),([],[]),([],[]),([],[]),([3,4],[3,4]),([1,2,0,1,2,3,4,5],[1,2]),([6,0,1,2,3,4,5],[6]),([7,5,5,0,1,2,3,4,5],[5,7])])
def spec_someHeap.B9 : List Nat:=[0,1,0,0,0,24,63,127,255]
theorem spec_someHeap.tab9 : rtab .any (opsOf Try.f40 9) = spec_someHeap.T9:=by kernel_rfl
theorem spec_someHeap.bits9 : waitsOk spec_someHeap.T9.2 spec_someHeap.B9 = true:=by kernel_rfl
def spec_someHeap.T11 : Bool × List (List Nat × List Nat):=(true,[([],[]),([0],[0]),([],[]),([],[]),([],[]),([3,4],[3,4]),([1,2,0,1,2,3,4,5],[1,2]),([6,0,1,2,3,4,5],[6]),([7,5,5,0,1,2,3,4,5],[5,7])])
def spec_someHeap.B11 : List Nat:=[0,1,0,0,0,24,63,127,255]
theorem spec_someHeap.tab11 : rtab .any (opsOf Try.f40 11) = spec_someHeap.T11:=by kernel_rfl
theorem spec_someHeap.bits11 : waitsOk spec_someHeap.T11.2 spec_someHeap.B11 = true:=by kernel_rfl
def spec_someHeap.T13 : Bool × List (List Nat × List Nat):=(true,[([],[]),([0],[0]),([],[]),([],[]),([],[]),([4],[4]),([3,5],[3,5]),([1,2,0,1,2,3,4,5,6],[1,2]),([7,0,1,2,3,4,5,6],[7]),([8,6,6,0,1,2,3,4,5,6],[6,8])])
def spec_someHeap.B13 : List Nat:=[0,1,0,0,0,16,56,127,255,511]
theorem spec_someHeap.tab13 : rtab .any (opsOf Try.f40 13) = spec_someHeap.T13:=by kernel_rfl
theorem spec_someHeap.bits13 : waitsOk spec_someHeap.T13.2 spec_someHeap.B13 = true:=by kernel_rfl
set_option maxHeartbeats 8000000 in
set_option maxRecDepth 100000 in
theorem spec_someHeap.calls (k : Nat) (g : Nat) (s0_0 : List Int) (s0_1 : Int) (r1 : List (S87)) (r2 : List (S43)) (r3 : Int) (w0 w : World) (hI : IsS76 w0 w g s0_0 s0_1) (hB : Below w0.heap.size w0 w) (h : spec_someHeap.f k s0_0 s0_1 = some (r1,r2,r3)) :
  Calls Try.prog 40 #[.pointer (some ⟨g,0,none⟩)] w fun e w'=>∃ v0_ v1_ : Value,e = .returned (.tuple #[.agg #[v0_],.agg #[v1_]]) ∧ Kd.R k87 87 w' w.heap.size (fun _=>True) v0_ r1 ∧ Kd.R k43 43 w' w.heap.size (fun _=>True) v1_ r2 ∧ IsS76 w0 w' g s0_0 r3 ∧ Below w0.heap.size w0 w' ∧ KeepBut w w' g none:=by
 have hu25:=Try.underlying25
 have hu28:=Try.underlying28
 have HI0:=a0_ hI
 have HK:=a0_ (KeepBut.refl w g none)
 have HL:=a0_ hB.size
 clear hI
 have HW0:=a0_ hB.size
 have HB:=a0_ hB
 clear hB
 have H : ((spec_someTree.f k s0_0 s0_1).bind fun bt3=>((spec_goodHeap.f k s0_0 bt3.2 bt3.1).bind fun bt8=>(if (bt8.1.length : Int) > 0 then ((spec_reader_pick.f k s0_0 bt8.2 (bt8.1.length : Int)).bind fun bt13=>((spec_reader_pick.f k s0_0 bt13.2 24).bind fun bt15=>(if bt15.1 = 0 then ((spec_reader_one.f k s0_0 bt15.2 (([bt13.1,9,(-2)] : List Int))).bind fun bt20=>(if 0 ≤ bt13.1 then (if bt13.1 < (bt8.1.length : Int) then (some (bt3.1,(bt8.1.set (bt13.1 : Int).toNat (⟨(rd_T43 bt8.1 bt13.1).f0,(rd_T43 bt8.1 bt13.1).f1,(rd_T43 bt8.1 bt13.1).f2,bt20.1,(rd_T43 bt8.1 bt13.1).f4⟩ : S43)),bt20.2)) else (none)) else (none))) else (if bt15.1 = 1 then ((spec_aClass.f k s0_0 bt15.2 bt3.1).bind fun bt23=>(if 0 ≤ bt13.1 then (if bt13.1 < (bt8.1.length : Int) then (some (bt3.1,(bt8.1.set (bt13.1 : Int).toNat (⟨bt23.1,(rd_T43 bt8.1 bt13.1).f1,(rd_T43 bt8.1 bt13.1).f2,(rd_T43 bt8.1 bt13.1).f3,(rd_T43 bt8.1 bt13.1).f4⟩ : S43)),bt23.2)) else (none)) else (none))) else (if bt15.1 = 2 then ((spec_reader_one.f k s0_0 bt15.2 (([(-1),100] : List Int))).bind fun bt29=>(if 0 ≤ bt13.1 then (if bt13.1 < (bt8.1.length : Int) then (some (bt3.1,(bt8.1.set (bt13.1 : Int).toNat (⟨(rd_T43 bt8.1 bt13.1).f0,bt29.1,(rd_T43 bt8.1 bt13.1).f2,(rd_T43 bt8.1 bt13.1).f3,(rd_T43 bt8.1 bt13.1).f4⟩ : S43)),bt29.2)) else (none)) else (none))) else (if bt15.1 = 3 then ((spec_reader_one.f k s0_0 bt15.2 (([bt13.1,24,0] : List Int))).bind fun bt35=>(if 0 ≤ bt13.1 then (if bt13.1 < (bt8.1.length : Int) then (some (bt3.1,(bt8.1.set (bt13.1 : Int).toNat (⟨(rd_T43 bt8.1 bt13.1).f0,(rd_T43 bt8.1 bt13.1).f1,bt35.1,(rd_T43 bt8.1 bt13.1).f3,(rd_T43 bt8.1 bt13.1).f4⟩ : S43)),bt35.2)) else (none)) else (none))) else (some (bt3.1,bt8.1,bt15.2)))))))) else (some (bt3.1,bt8.1,bt8.2))))) = some (r1,r2,r3):=h
 clear h
 replace H:=Option.bind_eq_some_iff.mp H
 obtain ⟨⟨t3,t6⟩,A20,H⟩:=H
 try dsimp only at H
 have A2:=a0_ A20
 clear A20
 replace H:=Option.bind_eq_some_iff.mp H
 obtain ⟨⟨t8,t11⟩,A30,H⟩:=H
 try dsimp only at H
 have A3:=a0_ A30
 clear A30
 by_cases c4 : (t8.length : Int) > 0
 ·rw [if_pos c4] at H
  have c4b0 : decide (0 < (t8.length : Int)) = true:=decide_eq_true c4
  have c4b1 : decide (0 < t8.length) = true:=decide_eq_true (by omega)
  clear c4
  replace H:=Option.bind_eq_some_iff.mp H
  obtain ⟨⟨t13,t14⟩,A50,H⟩:=H
  try dsimp only at H
  have A5:=a0_ A50
  clear A50
  replace H:=Option.bind_eq_some_iff.mp H
  obtain ⟨⟨t15,t16⟩,A60,H⟩:=H
  try dsimp only at H
  have A6:=a0_ A60
  clear A60
  by_cases c7 : t15 = 0
  ·rw [if_pos c7] at H
   have c7b0 : (t15 == 0) = true:=beq_iff_eq.mpr c7
   have c7b1 : (t15 != 0) = false:=bne_eq_false_iff_eq.mpr c7
   clear c7
   obtain ⟨y17,hy17⟩ : ∃ y_ : List Int,y_ = (([t13,9,(-2)] : List Int)):=⟨_,rfl⟩
   replace H : ((spec_reader_one.f k s0_0 t16 y17).bind fun bt20=>(if 0 ≤ t13 then (if t13 < (t8.length : Int) then (some (t3,(t8.set (t13 : Int).toNat (⟨(rd_T43 t8 t13).f0,(rd_T43 t8 t13).f1,(rd_T43 t8 t13).f2,bt20.1,(rd_T43 t8 t13).f4⟩ : S43)),bt20.2)) else (none)) else (none))) = some (r1,r2,r3):=by first | (rw [hy17];with_reducible exact H) | (have H2_:=(Option.bind_some _ _).symm.trans H;rw [hy17];with_reducible exact H2_) | (have H2_:=(Option.bind_some _ _).symm.trans H;with_reducible exact H2_) | with_reducible exact H | (rw [hy17];exact H) | exact H
   have Ny17:=a0_ hy17
   clear hy17
   replace H:=Option.bind_eq_some_iff.mp H
   obtain ⟨⟨t20,t21⟩,A80,H⟩:=H
   try dsimp only at H
   have A8:=a0_ A80
   clear A80
   by_cases c9 : 0 ≤ t13
   ·rw [if_pos c9] at H
    have c9b0 : decide (0 ≤ t13) = true:=decide_eq_true c9
    clear c9
    by_cases c10 : t13 < (t8.length : Int)
    ·rw [if_pos c10] at H
     have c10b0 : decide (t13 < (t8.length : Int)) = true:=decide_eq_true c10
     clear c10
     obtain ⟨y22,hy22⟩ : ∃ y_ : List (S43),y_ = (t8.set (t13 : Int).toNat (⟨(rd_T43 t8 t13).f0,(rd_T43 t8 t13).f1,(rd_T43 t8 t13).f2,t20,(rd_T43 t8 t13).f4⟩ : S43)):=⟨_,rfl⟩
     replace H : (some (t3,y22,t21)) = some (r1,r2,r3):=by first | (rw [hy22];with_reducible exact H) | (have H2_:=(Option.bind_some _ _).symm.trans H;rw [hy22];with_reducible exact H2_) | (have H2_:=(Option.bind_some _ _).symm.trans H;with_reducible exact H2_) | with_reducible exact H | (rw [hy22];exact H) | exact H
     have Ny22:=a0_ hy22
     clear hy22
     simp only [Option.some.injEq,Prod.mk.injEq] at H
     obtain ⟨rfl,rfl,rfl⟩:=H
     go_enter Try.func40,Try.ntmps40
     try go_wp2_with (first | ((with_reducible refine gate_dst (N:=2) rfl ?_);refine box_event ?hg (N:=2) ?hd (cs:=#[.slice none 0 0]) (t:=25) ?hr ?_;(case hd=>rfl);(case hg=>rfl);(case hr=>first | (go_simp;done) | (go_simp;rfl));intro gb1 hg w12 hbox hb;have n0_:=a0_ (IsS76.below is0_ hb);have n1_:=a0_ (KeepBut.trans (w:=w) hk_ (KeepBut.of_below hb g none) (.inl rfl));have n2_:=a0_ (below_step hbi0_ hb);have n3_:=a0_ (hbox);have n4_:=a0_ ((by rw [hg];exact (keep_size (w:=w) (g:=g) (row:=none) hk_) : w.heap.size ≤ gb1));have n5_:=a0_ ((Nat.le_trans HW0.out (by rw [hg];exact (keep_size (w:=w) (g:=g) (row:=none) hk_) : w.heap.size ≤ gb1) : w0.heap.size ≤ gb1));have n6_:=a0_ ((by rw [hg];exact Nat.ne_of_lt (IsS76.lt (is0_ : IsS76 w0 _ g s0_0 s0_1)) : g ≠ gb1));have n7_:=a0_ ((by rw [hg];exact Nat.ne_of_gt (IsS76.lt (is0_ : IsS76 w0 _ g s0_0 s0_1)) : gb1 ≠ g));clear HI0 HK HB;have HI0:=n0_;have HK:=n1_;have HB:=n2_;have BK1:=n3_;have GW1:=n4_;have GE1:=n5_;have NB0_1:=n6_;have NB1_0:=n7_;clear n0_ n1_ n2_ n3_ n4_ n5_ n6_ n7_;clear hb hbox hg) | ((with_reducible refine gate_dst (N:=3) rfl ?_);refine box_event ?hg (N:=3) ?hd (cs:=#[.slice none 0 0]) (t:=28) ?hr ?_;(case hd=>rfl);(case hg=>rfl);(case hr=>first | (go_simp;done) | (go_simp;rfl));intro gb2 hg w13 hbox hb;have n0_:=a0_ (IsS76.below is0_ hb);have n1_:=kb_ BK1 hb;have n2_:=a0_ (KeepBut.trans (w:=w) hk_ (KeepBut.of_below hb g none) (.inl rfl));have n3_:=a0_ (below_step hbi0_ hb);have n4_:=a0_ (hbox);have n5_:=a0_ ((by rw [hg];exact (keep_size (w:=w) (g:=g) (row:=none) hk_) : w.heap.size ≤ gb2));have n6_:=a0_ ((Nat.le_trans HW0.out (by rw [hg];exact (keep_size (w:=w) (g:=g) (row:=none) hk_) : w.heap.size ≤ gb2) : w0.heap.size ≤ gb2));have n7_:=a0_ ((by rw [hg];exact Nat.ne_of_lt (blk_lt (bb_ BK1.out)) : gb1 ≠ gb2));have n8_:=a0_ ((by rw [hg];exact Nat.ne_of_gt (blk_lt (bb_ BK1.out)) : gb2 ≠ gb1));have n9_:=a0_ ((by rw [hg];exact Nat.ne_of_lt (IsS76.lt (is0_ : IsS76 w0 _ g s0_0 s0_1)) : g ≠ gb2));have n10_:=a0_ ((by rw [hg];exact Nat.ne_of_gt (IsS76.lt (is0_ : IsS76 w0 _ g s0_0 s0_1)) : gb2 ≠ g));clear HI0 BK1;clear HK HB;have HI0:=n0_;have BK1:=n1_;have HK:=n2_;have HB:=n3_;have BK2:=n4_;have GW2:=n5_;have GE2:=n6_;have NB1_2:=n7_;have NB2_1:=n8_;have NB0_2:=n9_;have NB2_0:=n10_;clear n0_ n1_ n2_ n3_ n4_ n5_ n6_ n7_ n8_ n9_ n10_;clear hb hbox hg) | ((with_reducible refine gate_callee (f:=66) rfl ?_);refine goesL_ (some 8) rfl rfl Try.func66 (by kernel_rfl) rfl #[.pointer (some ⟨g,0,none⟩)] rfl lm_ ?_;(with_reducible refine (spec_someTree.calls k g s0_0 s0_1 t3 t6 w0 _ ?side1 ?side2 A2.out).mono ?_);(case side1=>exact is0_);(case side2=>exact hbi0_);rintro e w14 ⟨v4,rfl,ho0,hi,hb,hk⟩;refine ⟨_,rfl,?_⟩;replace BK1:=kk_ hk BK1 NB1_0;replace BK2:=kk_ hk BK2 NB2_0;have HO5:=a0_ (Kd.R_lower ho0 (keep_size (w:=w) (g:=g) (row:=none) hk_));replace HK:=a0_ (KeepBut.trans (w:=w) hk_ hk (.inl rfl));replace HI0:=a0_ (hi);replace HB:=a0_ (hb);(try clear hb);(try clear ho0)) | ((with_reducible refine gate_dst (N:=4) rfl ?_);refine box_event ?hg (N:=4) ?hd (cs:=#[.slice none 0 0]) (t:=25) ?hr ?_;(case hd=>rfl);(case hg=>rfl);(case hr=>first | (go_simp;done) | (go_simp;rfl));intro gb7 hg w15 hbox hb;have n0_:=rb_ HO5 hb;have n1_:=a0_ (IsS76.below is0_ hb);have n2_:=kb_ BK1 hb;have n3_:=kb_ BK2 hb;have n4_:=a0_ (KeepBut.trans (w:=w) hk_ (KeepBut.of_below hb g none) (.inl rfl));have n5_:=a0_ (below_step hbi0_ hb);have n6_:=a0_ (hbox);have n7_:=a0_ ((by rw [hg];exact (keep_size (w:=w) (g:=g) (row:=none) hk_) : w.heap.size ≤ gb7));have n8_:=a0_ ((Nat.le_trans HW0.out (by rw [hg];exact (keep_size (w:=w) (g:=g) (row:=none) hk_) : w.heap.size ≤ gb7) : w0.heap.size ≤ gb7));have n9_:=a0_ ((by rw [hg];exact Nat.ne_of_lt (blk_lt (bb_ BK1.out)) : gb1 ≠ gb7));have n10_:=a0_ ((by rw [hg];exact Nat.ne_of_gt (blk_lt (bb_ BK1.out)) : gb7 ≠ gb1));have n11_:=a0_ ((by rw [hg];exact Nat.ne_of_lt (blk_lt (bb_ BK2.out)) : gb2 ≠ gb7));have n12_:=a0_ ((by rw [hg];exact Nat.ne_of_gt (blk_lt (bb_ BK2.out)) : gb7 ≠ gb2));have n13_:=a0_ ((by rw [hg];exact Nat.ne_of_lt (IsS76.lt (is0_ : IsS76 w0 _ g s0_0 t6)) : g ≠ gb7));have n14_:=a0_ ((by rw [hg];exact Nat.ne_of_gt (IsS76.lt (is0_ : IsS76 w0 _ g s0_0 t6)) : gb7 ≠ g));clear HO5 HI0;clear BK1 BK2;clear HK HB;have HO5:=n0_;have HI0:=n1_;have BK1:=n2_;have BK2:=n3_;have HK:=n4_;have HB:=n5_;have BK7:=n6_;have GW7:=n7_;have GE7:=n8_;have NB1_7:=n9_;have NB7_1:=n10_;have NB2_7:=n11_;have NB7_2:=n12_;have NB0_7:=n13_;have NB7_0:=n14_;clear n0_ n1_ n2_ n3_ n4_ n5_ n6_ n7_ n8_ n9_ n10_ n11_ n12_ n13_ n14_;clear hb hbox hg;obtain ⟨Ao16,co16,eo16⟩:=Kd.R_slice HO5.out;subst eo16;have hnb17:=NB7_1.out;have hnc17:=NB1_7.out;have hnb18:=NB7_2.out;have hnc18:=NB2_7.out;have hnb19:=NB7_0.out;have hnc19:=NB0_7.out;have hcz20_0 : w15.cell? ⟨gb7,0,none⟩ = some (.slice none 0 0):=(blk_cell BK7.out 0).trans rfl;have hfz20_0:=blk_frozen BK7.out 0) | ((with_reducible refine gate_callee (f:=67) rfl ?_);refine goesL_ (some 11) rfl rfl Try.func67 (by kernel_rfl) rfl #[.pointer (some ⟨g,0,none⟩),.agg #[.slice Ao16 t3.length co16]] rfl lm_ ?_;(with_reducible refine (spec_goodHeap.calls k g s0_0 t6 _ _ t3 t8 t11 w0 _ ?side1 ?side2 ?side3 ?side4 A3.out).mono ?_);(case side1=>exact is0_);(case side2=>exact hbi0_);(case side3=>exact Kd.C_foot_own (IsS76.apart (is0_ : IsS76 w0 _ g s0_0 t6) (by (with_reducible repeat (first | apply Kd.R_alloc | apply Kd.R_drewN | apply Kd.R_drew));exact (Kd.R_mono (Kd.R_far (p:=⟨gb7,0,none⟩) (Kd.R_types HO5.out BK7.out (by decide)) (fun _ hk=>hk.2) (.slice Ao16 t3.length co16)) (fun _ h_=>h_.1))) (by decide)) (fun _ h_=>h_.2));(case side4=>exact (Kd.R_reads' HO5.out).2.1);rintro e w21 ⟨v9,rfl,ho0,hi,hb,hk⟩;refine ⟨_,rfl,?_⟩;replace BK1:=kk_ hk BK1 NB1_0;replace BK2:=kk_ hk BK2 NB2_0;replace HO5:=a0_ (Kd.R_mono (Kd.R_keep (IsS76.apart (is0_ : IsS76 w0 _ g s0_0 t6) (by (with_reducible repeat (first | apply Kd.R_alloc | apply Kd.R_drewN | apply Kd.R_drew));exact (Kd.R_mono (Kd.R_far (p:=⟨gb7,0,none⟩) (Kd.R_types HO5.out BK7.out (by decide)) (fun _ hk=>hk.2) (.slice Ao16 t3.length co16)) (fun _ h_=>h_.1))) (by decide)) hk (fun _ h=>h.2)) (fun _ h=>h.1));replace BK7:=a0_ (KeepBut.blk hk (g':=gb7) (o:=.cells #[.slice Ao16 t3.length co16] 25 (0,0)) (by (with_reducible repeat (first | refine blk_drewN ?_ _ | refine blk_drew ?_ | refine blk_alloc ?_ _));refine blk_put (cs:=#[.slice none 0 0]) ?_ 0 _ rfl;(with_reducible repeat (first | refine blk_drewN ?_ _ | refine blk_drew ?_ | refine blk_alloc ?_ _));exact BK7.out) NB7_0.out (by simp));have HO10:=a0_ (Kd.R_lower ho0 (keep_size (w:=w) (g:=g) (row:=none) hk_));replace HK:=a0_ (KeepBut.trans (w:=w) hk_ hk (.inl rfl));replace HI0:=a0_ (hi);replace HB:=a0_ (hb);(try clear hb);(try clear ho0)) | ((with_reducible refine gate_dst (N:=5) rfl ?_);refine box_event ?hg (N:=5) ?hd (cs:=#[.slice none 0 0]) (t:=28) ?hr ?_;(case hd=>rfl);(case hg=>rfl);(case hr=>first | (go_simp;done) | (go_simp;rfl));intro gb12 hg w22 hbox hb;have n0_:=rb_ HO5 hb;have n1_:=rb_ HO10 hb;have n2_:=a0_ (IsS76.below is0_ hb);have n3_:=kb_ BK1 hb;have n4_:=kb_ BK2 hb;have n5_:=kb_ BK7 hb;have n6_:=a0_ (KeepBut.trans (w:=w) hk_ (KeepBut.of_below hb g none) (.inl rfl));have n7_:=a0_ (below_step hbi0_ hb);have n8_:=a0_ (hbox);have n9_:=a0_ ((by rw [hg];exact (keep_size (w:=w) (g:=g) (row:=none) hk_) : w.heap.size ≤ gb12));have n10_:=a0_ ((Nat.le_trans HW0.out (by rw [hg];exact (keep_size (w:=w) (g:=g) (row:=none) hk_) : w.heap.size ≤ gb12) : w0.heap.size ≤ gb12));have n11_:=a0_ ((by rw [hg];exact Nat.ne_of_lt (blk_lt (bb_ BK1.out)) : gb1 ≠ gb12));have n12_:=a0_ ((by rw [hg];exact Nat.ne_of_gt (blk_lt (bb_ BK1.out)) : gb12 ≠ gb1));have n13_:=a0_ ((by rw [hg];exact Nat.ne_of_lt (blk_lt (bb_ BK2.out)) : gb2 ≠ gb12));have n14_:=a0_ ((by rw [hg];exact Nat.ne_of_gt (blk_lt (bb_ BK2.out)) : gb12 ≠ gb2));have n15_:=a0_ ((by rw [hg];exact Nat.ne_of_lt (blk_lt (bb_ BK7.out)) : gb7 ≠ gb12));have n16_:=a0_ ((by rw [hg];exact Nat.ne_of_gt (blk_lt (bb_ BK7.out)) : gb12 ≠ gb7));have n17_:=a0_ ((by rw [hg];exact Nat.ne_of_lt (IsS76.lt (is0_ : IsS76 w0 _ g s0_0 t11)) : g ≠ gb12));have n18_:=a0_ ((by rw [hg];exact Nat.ne_of_gt (IsS76.lt (is0_ : IsS76 w0 _ g s0_0 t11)) : gb12 ≠ g));clear HO5 HO10;clear HI0 BK1;clear BK2 BK7;clear HK HB;have HO5:=n0_;have HO10:=n1_;have HI0:=n2_;have BK1:=n3_;have BK2:=n4_;have BK7:=n5_;have HK:=n6_;have HB:=n7_;have BK12:=n8_;have GW12:=n9_;have GE12:=n10_;have NB1_12:=n11_;have NB12_1:=n12_;have NB2_12:=n13_;have NB12_2:=n14_;have NB7_12:=n15_;have NB12_7:=n16_;have NB0_12:=n17_;have NB12_0:=n18_;clear n0_ n1_ n2_ n3_ n4_ n5_ n6_ n7_ n8_ n9_ n10_ n11_ n12_ n13_ n14_ n15_ n16_ n17_ n18_;clear hb hbox hg;obtain ⟨Ao23,co23,eo23⟩:=Kd.R_slice HO10.out;subst eo23;have hnb24:=NB12_1.out;have hnc24:=NB1_12.out;have hnb25:=NB12_2.out;have hnc25:=NB2_12.out;have hnb26:=NB12_7.out;have hnc26:=NB7_12.out;have hnb27:=NB12_0.out;have hnc27:=NB0_12.out;have hcz28_0 : w22.cell? ⟨gb12,0,none⟩ = some (.slice none 0 0):=(blk_cell BK12.out 0).trans rfl;have hfz28_0:=blk_frozen BK12.out 0) | ((with_reducible refine gate_callee (f:=48) rfl ?_);refine goesL_ (some 20) rfl rfl Try.func48 (by kernel_rfl) rfl #[.pointer (some ⟨g,0,none⟩),.int .i64 (t8.length : Int)] rfl lm_ ?_;(with_reducible refine (spec_reader_pick.calls k g s0_0 t11 (t8.length : Int) t13 t14 w0 _ ?side1 ?side2 A5.out).mono ?_);(case side1=>exact is0_);(case side2=>exact hbi0_);rintro e w29 ⟨rfl,hi,hb,hk⟩;refine ⟨_,rfl,?_⟩;replace BK1:=kk_ hk BK1 NB1_0;replace BK2:=kk_ hk BK2 NB2_0;replace HO5:=a0_ (Kd.R_mono (Kd.R_keep (IsS76.apart (is0_ : IsS76 w0 _ g s0_0 t11) (by (with_reducible repeat (first | apply Kd.R_alloc | apply Kd.R_drewN | apply Kd.R_drew));exact (Kd.R_mono (Kd.R_far (p:=⟨gb12,0,none⟩) (Kd.R_types HO5.out BK12.out (by decide)) (fun _ hk=>hk.2) (.slice Ao23 t8.length co23)) (fun _ h_=>h_.1))) (by decide)) hk (fun _ h=>h.2)) (fun _ h=>h.1));replace BK7:=kk_ hk BK7 NB7_0;replace HO10:=a0_ (Kd.R_mono (Kd.R_keep (IsS76.apart (is0_ : IsS76 w0 _ g s0_0 t11) (by (with_reducible repeat (first | apply Kd.R_alloc | apply Kd.R_drewN | apply Kd.R_drew));exact (Kd.R_mono (Kd.R_far (p:=⟨gb12,0,none⟩) (Kd.R_types HO10.out BK12.out (by decide)) (fun _ hk=>hk.2) (.slice Ao23 t8.length co23)) (fun _ h_=>h_.1))) (by decide)) hk (fun _ h=>h.2)) (fun _ h=>h.1));replace BK12:=a0_ (KeepBut.blk hk (g':=gb12) (o:=.cells #[.slice Ao23 t8.length co23] 28 (0,0)) (by (with_reducible repeat (first | refine blk_drewN ?_ _ | refine blk_drew ?_ | refine blk_alloc ?_ _));refine blk_put (cs:=#[.slice none 0 0]) ?_ 0 _ rfl;(with_reducible repeat (first | refine blk_drewN ?_ _ | refine blk_drew ?_ | refine blk_alloc ?_ _));exact BK12.out) NB12_0.out (by simp));replace HK:=a0_ (KeepBut.trans (w:=w) hk_ hk (.inl rfl));replace HI0:=a0_ (hi);replace HB:=a0_ (hb);(try clear hb);(try clear hb2);(try clear hk);(try clear hi)) | ((with_reducible refine gate_callee (f:=48) rfl ?_);refine goesL_ (some 22) rfl rfl Try.func48 (by kernel_rfl) rfl #[.pointer (some ⟨g,0,none⟩),.int .i64 24] rfl lm_ ?_;(with_reducible refine (spec_reader_pick.calls k g s0_0 t14 24 t15 t16 w0 _ ?side1 ?side2 A6.out).mono ?_);(case side1=>exact is0_);(case side2=>exact hbi0_);rintro e w30 ⟨rfl,hi,hb,hk⟩;refine ⟨_,rfl,?_⟩;replace BK1:=kk_ hk BK1 NB1_0;replace BK2:=kk_ hk BK2 NB2_0;replace HO5:=a0_ (Kd.R_mono (Kd.R_keep (IsS76.apart (is0_ : IsS76 w0 _ g s0_0 t14) (rr_ HO5.out) (by decide)) hk (fun _ h=>h.2)) (fun _ h=>h.1));replace BK7:=kk_ hk BK7 NB7_0;replace HO10:=a0_ (Kd.R_mono (Kd.R_keep (IsS76.apart (is0_ : IsS76 w0 _ g s0_0 t14) (rr_ HO10.out) (by decide)) hk (fun _ h=>h.2)) (fun _ h=>h.1));replace BK12:=kk_ hk BK12 NB12_0;replace HK:=a0_ (KeepBut.trans (w:=w) hk_ hk (.inl rfl));replace HI0:=a0_ (hi);replace HB:=a0_ (hb);(try clear hb);(try clear hb2);(try clear hk);(try clear hi)))
     have n0_:=a0_ (Kd.R_drew HO5.out)
     have n1_:=a0_ (Kd.R_drew HO10.out)
     have n2_:=a0_ (blk_drew BK1.out)
     have n3_:=a0_ (blk_drew BK2.out)
     have n4_:=a0_ (blk_drew BK7.out)
     have n5_:=a0_ (blk_drew BK12.out)
     have n6_:=a0_ (IsS76.drew HI0.out)
     have n7_:=a0_ (keep_drew HK.out)
     have n8_:=a0_ (below_drew1 HB.out)
     clear HO5
     clear HO10
     clear BK1
     clear BK2
     clear BK7
     clear BK12
     clear HI0
     clear HK
     clear HB
     have HO5:=n0_
     have HO10:=n1_
     have BK1:=n2_
     have BK2:=n3_
     have BK7:=n4_
     have BK12:=n5_
     have HI0:=n6_
     have HK:=n7_
     have HB:=n8_
     clear n0_ n1_ n2_ n3_ n4_ n5_ n6_ n7_ n8_
     refine start_ (n:=10) (S:=fun w'=>w'.cell? ⟨gb12,0,none⟩ = some (.slice Ao23 t8.length co23)) (ds:=[9]) #[false,false,false,false,false,false,false,false,false,false] (by kernel_rfl) rfl rfl ((blk_cell BK12.out 0).trans rfl) (fun hHeld=>?_);refine with_tabW spec_someHeap.tab7 spec_someHeap.bits7 (fun HT_ HW_=>?_)
     generalize w30.drew = w31 at HO5 HO10 BK1 BK2 BK7 BK12 HI0 HK HB hHeld ⊢
     refine pure_ (i:=0) (N:=some 25) (v:=?_) (a':=?_) #[true,false,false,false,false,false,false,false,false,false] rfl rfl (any_of HT_.out (by kernel_rfl)) (fun _ _ _ h=>h) (Or.inl ⟨by rfl,?_⟩) ?_ ?_
     rotate_left
     ·intro w'
      go_simp
      with_reducible rfl
     rotate_left
     ·simp only [Act.put,s1_,s2_,s3_,i64_w,i32_w]
      rfl
     refine pure_ (i:=2) (N:=some 27) (v:=?_) (a':=?_) #[true,false,true,false,false,false,false,false,false,false] rfl rfl (any_of HT_.out (by kernel_rfl)) (fun _ _ _ h=>h) (Or.inl ⟨by rfl,?_⟩) ?_ ?_
     rotate_left
     ·intro w'
      go_simp
      with_reducible rfl
     rotate_left
     ·simp only [Act.put,s1_,s2_,s3_,i64_w,i32_w]
      rfl
     refine pure_ (i:=3) (N:=some 28) (v:=?_) (a':=?_) #[true,false,true,true,false,false,false,false,false,false] rfl rfl (any_of HT_.out (by kernel_rfl)) (fun _ _ _ h=>h) (Or.inl ⟨by rfl,?_⟩) ?_ ?_
     rotate_left
     ·intro w'
      go_simp
      with_reducible rfl
     rotate_left
     ·simp only [Act.put,s1_,s2_,s3_,i64_w,i32_w]
      rfl
     refine pure_ (i:=4) (N:=some 29) (v:=?_) (a':=?_) #[true,false,true,true,true,false,false,false,false,false] rfl rfl (any_of HT_.out (by kernel_rfl)) (fun _ _ _ h=>h) (Or.inl ⟨by rfl,?_⟩) ?_ ?_
     rotate_left
     ·intro w'
      go_simp
      with_reducible rfl
     rotate_left
     ·simp only [Act.put,s1_,s2_,s3_,i64_w,i32_w]
      rfl
     refine take_ (i:=1) (N:=some 26) (v:=?_) (a':=?_) #[true,true,true,true,true,false,false,false,false,false] rfl rfl (take_ofW HT_.out HW_.out (by kernel_rfl)) (fun _ _ _ h=>h) (Or.inl ⟨by rfl,?_⟩) hHeld ?_ ?_
     rotate_left
     ·intro w' s0
      go_simp
      with_reducible rfl
     rotate_left
     ·simp only [Act.put,s1_,s2_,s3_,i64_w,i32_w]
      rfl
     refine one_ (i:=5) (N:=some 30) #[true,true,true,true,true,true,false,false,false,false] rfl rfl (one_of HT_.out (by kernel_rfl)) (by decide) (fun K hK=>?_)
     refine Kd.R_lit_step (Kd.int .i64) _ 3 ?hg (N:=30) ?hd (xs:=([t13,9,(-2)] : List Int)) (inner:=[.int .i64 t13,.int .i64 9,.int .i64 (-2)]) (ok:=fun _=>True) (okp:=fun _=>True) ?hr ?hp (fun _ hk=>hk) trivial (Below.refl _ _) (Nat.le_refl _) (by simp) ?_;(case hd=>rfl);(case hg=>rfl);(case hr=>first | (go_simp;done) | (go_simp;rfl));(case hp=>exact (Reps.one (show Kd.M (Kd.int .i64) _ _ _ t13 [.int .i64 t13] from rfl) (Reps.one (show Kd.M (Kd.int .i64) _ _ _ 9 [.int .i64 9] from rfl) (Reps.one (show Kd.M (Kd.int .i64) _ _ _ (-2) [.int .i64 (-2)] from rfl) (Reps.none _ _)))))
     intro v18 w32 ho33 hb hg_ hnew_
     clear hg_ hnew_
     (first | rw [← Ny17.out] at ho33 | (simp only [Int.reduceToNat] at ho33;rw [← Ny17.out] at ho33))
     have n0_:=rb_ HO5 hb
     have n1_:=rb_ HO10 hb
     have n2_:=a0_ (Kd.R_lower ho33 (keep_size (w:=w) (g:=g) (row:=none) hk_))
     have n3_:=a0_ (IsS76.below is0_ hb)
     have n4_:=kb_ BK1 hb
     have n5_:=kb_ BK2 hb
     have n6_:=kb_ BK7 hb
     have n7_:=kb_ BK12 hb
     have n8_:=a0_ (KeepBut.trans (w:=w) hk_ (KeepBut.of_below hb g none) (.inl rfl))
     have n9_:=a0_ (below_step hbi0_ hb)
     clear HO5
     clear HO10
     clear HI0
     clear BK1
     clear BK2
     clear BK7
     clear BK12
     clear HK
     clear HB
     have HO5:=n0_
     have HO10:=n1_
     have HO19:=n2_
     have HI0:=n3_
     have BK1:=n4_
     have BK2:=n5_
     have BK7:=n6_
     have BK12:=n7_
     have HK:=n8_
     have HB:=n9_
     clear n0_ n1_ n2_ n3_ n4_ n5_ n6_ n7_ n8_ n9_
     clear hb ho33
     obtain ⟨Ao34,co34,eo34⟩:=Kd.R_slice HO19.out
     (first | subst eo34 | (injection eo34 with f1_ f2_ f3_;have f4_:=f1_.symm;have f5_:=f3_.symm;clear f1_ f2_ f3_;subst f4_;subst f5_))
     refine hK.out _ _ ((blk_cell BK12.out 0).trans rfl) (fun hHeld=>?_)
     clear hK K
     refine norm_ (a':=?_) ?_ ?_
     rotate_left
     ·show Act.put _ (some 30) _ = _
      simp only [Act.put,s1_,s2_,s3_,i64_w,i32_w]
      rfl
     refine one_ (i:=6) (N:=some 31) #[true,true,true,true,true,true,true,false,false,false] rfl rfl (one_of HT_.out (by kernel_rfl)) (by decide) (fun K hK=>?_)
     refine goes_ Try.func42 (by kernel_rfl) rfl #[.pointer (some ⟨g,0,none⟩),.slice Ao34 y17.length co34] (by rfl) rfl rfl lm_ ?_
     with_reducible refine (spec_reader_one.calls k g s0_0 t16 _ _ y17 t20 t21 w0 _ ?side1 ?side2 ?side3 ?side4 ?side5 A8.out).mono ?_
     (case side1=>exact is0_)
     (case side2=>exact hbi0_)
     (case side3=>exact cc_ (Kd.R_reads' HO19.out).2.2)
     (case side4=>exact (Kd.R_reads' HO19.out).2.1)
     (case side5=>exact far_slice (IsS76.own_ne HI0.out HO19.out (by decide)))
     rintro e w35 ⟨rfl,hi,hb,hk⟩
     refine ⟨_,rfl,?_⟩
     have n0_:=kk_ hk BK1 NB1_0
     have n1_:=kk_ hk BK2 NB2_0
     have n2_:=a0_ (Kd.R_mono (Kd.R_keep (IsS76.apart (is0_ : IsS76 w0 _ g s0_0 t16) (rr_ HO5.out) (by decide)) hk (fun _ h=>h.2)) (fun _ h=>h.1))
     have n3_:=kk_ hk BK7 NB7_0
     have n4_:=a0_ (Kd.R_mono (Kd.R_keep (IsS76.apart (is0_ : IsS76 w0 _ g s0_0 t16) (rr_ HO10.out) (by decide)) hk (fun _ h=>h.2)) (fun _ h=>h.1))
     have n5_:=kk_ hk BK12 NB12_0
     have n6_:=a0_ (Kd.R_mono (Kd.R_keep (IsS76.apart (is0_ : IsS76 w0 _ g s0_0 t16) (rr_ HO19.out) (by decide)) hk (fun _ h=>h.2)) (fun _ h=>h.1))
     have n7_:=a0_ (KeepBut.trans (w:=w) hk_ hk (.inl rfl))
     have n8_:=a0_ (hb)
     have n9_:=a0_ (hi)
     clear BK1
     clear BK2
     clear HO5
     clear BK7
     clear HO10
     clear BK12
     clear HO19
     clear HK
     clear HB
     clear HI0
     have BK1:=n0_
     have BK2:=n1_
     have HO5:=n2_
     have BK7:=n3_
     have HO10:=n4_
     have BK12:=n5_
     have HO19:=n6_
     have HK:=n7_
     have HB:=n8_
     have HI0:=n9_
     clear n0_ n1_ n2_ n3_ n4_ n5_ n6_ n7_ n8_ n9_
     (try clear hb)
     (try clear hb2)
     (try clear hk)
     (try clear hi)
     have p11 : 0 ≤ (t13 : Int):=of_decide_eq_true (by first | (with_reducible assumption) | assumption)
     have q11 : (t13 : Int) < ((t8.length : Int) : Int):=of_decide_eq_true (by first | (with_reducible assumption) | assumption)
     obtain ⟨go11,co11,eo11,gb11,gl11,cl11,HG11⟩:=Kd.R_form HO10.out (by omega)
     (first | cases eo11 | (injection eo11 with ea_ en_ ec_;(first | subst ea_ | (injection ea_ with ea_;subst ea_));subst ec_;clear en_))
     have GB11:=a0_ gb11
     have GG11:=a0_ HG11
     clear gb11 gl11 HG11
     obtain ⟨ce11,hcl11,hM11,hcc11,hfr11⟩:=Kd.R_elem HO10.out z43 (t13 : Int) p11 q11
     obtain rfl:=k43_openM hM11
     have hx11_0 : World.cell? _ ⟨go11,(t13 : Int).toNat * 5,none⟩ = some (.int .i64 ((rd_T43 t8 t13).f0)):=hcc11 0 _ rfl
     have hx11_1 : World.cell? _ ⟨go11,(t13 : Int).toNat * 5 + 1,none⟩ = some (.int .i64 ((rd_T43 t8 t13).f1)):=hcc11 1 _ rfl
     have hx11_2 : World.cell? _ ⟨go11,(t13 : Int).toNat * 5 + 2,none⟩ = some (.int .i64 ((rd_T43 t8 t13).f2)):=hcc11 2 _ rfl
     have hx11_3 : World.cell? _ ⟨go11,(t13 : Int).toNat * 5 + 3,none⟩ = some (.int .i64 ((rd_T43 t8 t13).f3)):=hcc11 3 _ rfl
     have hx11_4 : World.cell? _ ⟨go11,(t13 : Int).toNat * 5 + 4,none⟩ = some (.bool ((rd_T43 t8 t13).f4)):=hcc11 4 _ rfl
     have hf11_0 : World.frozen? _ ⟨go11,(t13 : Int).toNat * 5,none⟩ = false:=hfr11 0
     have hf11_1 : World.frozen? _ ⟨go11,(t13 : Int).toNat * 5 + 1,none⟩ = false:=hfr11 1
     have hf11_2 : World.frozen? _ ⟨go11,(t13 : Int).toNat * 5 + 2,none⟩ = false:=hfr11 2
     have hf11_3 : World.frozen? _ ⟨go11,(t13 : Int).toNat * 5 + 3,none⟩ = false:=hfr11 3
     have hf11_4 : World.frozen? _ ⟨go11,(t13 : Int).toNat * 5 + 4,none⟩ = false:=hfr11 4
     clear hcl11 hcc11 hfr11 hM11
     replace p11:=eq_true p11
     replace q11:=eq_true q11
     have HN0_go11:=a0_ (show g ≠ go11 from by have h_:=IsS76.own_ne HI0.out HO10.out (by decide);intro e_;exact h_ (by rw [e_];rfl))
     obtain ⟨ce36,hcl36,hM36,hcc36,hfr36⟩:=Kd.R_elem HO10.out z43 (t13 : Int) (of_decide_eq_true (by first | (with_reducible assumption) | assumption)) (by have h_ : (t13 : Int) < ((t8.length : Int) : Int):=of_decide_eq_true (by first | (with_reducible assumption) | assumption);first | exact h_ | (have e_:=(Kd.R_reads' HO10.out).1;omega) | simpa using h_)
     obtain rfl:=k43_openM hM36
     have HP36:=(Kd.R_seg HO10.out (t13 : Int) (of_decide_eq_true (by first | (with_reducible assumption) | assumption)) (by have h_ : (t13 : Int) < ((t8.length : Int) : Int):=of_decide_eq_true (by first | (with_reducible assumption) | assumption);first | exact h_ | (have e_:=(Kd.R_reads' HO10.out).1;omega) | simpa using h_) (seg:=[.int .i64 t20]) (j:=3) hcl36 hcc36 (show 4 ≤ 5 from by decide) (x':=(⟨(rd_T43 t8 t13).f0,(rd_T43 t8 t13).f1,(rd_T43 t8 t13).f2,t20,(rd_T43 t8 t13).f4⟩ : S43)) (k43_mkM _ _ _ (⟨(rd_T43 t8 t13).f0,(rd_T43 t8 t13).f1,(rd_T43 t8 t13).f2,t20,(rd_T43 t8 t13).f4⟩ : S43) ) (fun _ hk=>hk)).1
     rw [← Ny22.out] at HP36
     have HQ36:=a0_ HP36
     clear hcl36 hcc36 hfr36 hM36 HP36
     refine hK.out _ _ ((blk_cell BK12.out 0).trans rfl) (fun hHeld=>?_)
     clear hK K
     refine norm_ (a':=?_) ?_ ?_
     rotate_left
     ·show Act.put _ (some 31) _ = _
      simp only [Act.put,s1_,s2_,s3_,i64_w,i32_w]
      rfl
     refine pure_ (i:=7) (N:=some 32) (v:=?_) (a':=?_) #[true,true,true,true,true,true,true,true,false,false] rfl rfl (any_of HT_.out (by kernel_rfl)) (fun _ _ _ h=>h) (Or.inl ⟨by rfl,?_⟩) ?_ ?_
     rotate_left
     ·intro w'
      go_simp
      with_reducible rfl
     rotate_left
     ·simp only [Act.put,s1_,s2_,s3_,i64_w,i32_w]
      rfl
     refine pure_ (i:=8) (N:=some 33) (v:=?_) (a':=?_) #[true,true,true,true,true,true,true,true,true,false] rfl rfl (any_of HT_.out (by kernel_rfl)) (fun _ _ _ h=>h) (Or.inl ⟨by rfl,?_⟩) ?_ ?_
     rotate_left
     ·intro w'
      go_simp
      with_reducible rfl
     rotate_left
     ·simp only [Act.put,s1_,s2_,s3_,i64_w,i32_w]
      rfl
     refine last_ (i:=9) (N:=none) #[true,true,true,true,true,true,true,true,true,true] rfl rfl (one_of HT_.out (by kernel_rfl)) (by decide) (fun K hK=>?_)
     refine skip_ (w1:=?_) (by rfl) rfl ?_ ?_
     rotate_left
     ·go_simp
      rfl
     refine hK.out _ _ ?_
     clear hK K
     refine done_ (done_of HT_.out (by kernel_rfl)) ?_
     have n0_ : Aside0 (Kd.R k87 87 (w35.setCell ⟨go11,(t13 : Int).toNat * 5 + 3,none⟩ (.int .i64 t20)) w.heap.size (fun _=>True) (.slice Ao16 t3.length co16) t3):=⟨by (with_reducible repeat (first | apply Kd.R_alloc | apply Kd.R_drewN | apply Kd.R_drew));exact Kd.R_mono (Kd.R_far (p:=⟨go11,(t13 : Int).toNat * 5 + 3,none⟩) (Kd.R_types HO5.out GG11.out (by decide)) (fun _ hk=>hk.2) (.int .i64 t20)) (fun _ hk=>trivial)⟩
     have n1_ : Aside0 (Kd.R k43 43 (w35.setCell ⟨go11,(t13 : Int).toNat * 5 + 3,none⟩ (.int .i64 t20)) w.heap.size (fun _=>True) (.slice (some ⟨go11,0,none⟩) t8.length co23) y22):=⟨by (with_reducible repeat (first | apply Kd.R_alloc | apply Kd.R_drewN | apply Kd.R_drew));exact HQ36.out⟩
     have n2_ : Aside0 (Kd.R (Kd.int .i64) 3 (w35.setCell ⟨go11,(t13 : Int).toNat * 5 + 3,none⟩ (.int .i64 t20)) w.heap.size (fun _=>True) (.slice Ao34 y17.length co34) y17):=⟨by (with_reducible repeat (first | apply Kd.R_alloc | apply Kd.R_drewN | apply Kd.R_drew));exact Kd.R_mono (Kd.R_far (p:=⟨go11,(t13 : Int).toNat * 5 + 3,none⟩) (Kd.R_types HO19.out GG11.out (by decide)) (fun _ hk=>hk.2) (.int .i64 t20)) (fun _ hk=>trivial)⟩
     have n3_ : Aside0 ((w35.setCell ⟨go11,(t13 : Int).toNat * 5 + 3,none⟩ (.int .i64 t20)).heap[gb1]? = some (.cells #[.slice none 0 0] 25 (0,0))):=⟨by (with_reducible repeat (first | refine blk_drewN ?_ _ | refine blk_drew ?_ | refine blk_alloc ?_ _));refine blk_far ?_ (by have h_:=Kd.R_ne HO10.out BK1.out (by decide);intro e_;exact h_ (by rw [e_];rfl)) _;(with_reducible repeat (first | refine blk_drewN ?_ _ | refine blk_drew ?_ | refine blk_alloc ?_ _));exact BK1.out⟩
     have n4_ : Aside0 ((w35.setCell ⟨go11,(t13 : Int).toNat * 5 + 3,none⟩ (.int .i64 t20)).heap[gb2]? = some (.cells #[.slice none 0 0] 28 (0,0))):=⟨by (with_reducible repeat (first | refine blk_drewN ?_ _ | refine blk_drew ?_ | refine blk_alloc ?_ _));refine blk_far ?_ (by have h_:=Kd.R_ne HO10.out BK2.out (by decide);intro e_;exact h_ (by rw [e_];rfl)) _;(with_reducible repeat (first | refine blk_drewN ?_ _ | refine blk_drew ?_ | refine blk_alloc ?_ _));exact BK2.out⟩
     have n5_ : Aside0 ((w35.setCell ⟨go11,(t13 : Int).toNat * 5 + 3,none⟩ (.int .i64 t20)).heap[gb7]? = some (.cells #[.slice Ao16 t3.length co16] 25 (0,0))):=⟨by (with_reducible repeat (first | refine blk_drewN ?_ _ | refine blk_drew ?_ | refine blk_alloc ?_ _));refine blk_far ?_ (by have h_:=Kd.R_ne HO10.out BK7.out (by decide);intro e_;exact h_ (by rw [e_];rfl)) _;(with_reducible repeat (first | refine blk_drewN ?_ _ | refine blk_drew ?_ | refine blk_alloc ?_ _));exact BK7.out⟩
     have n6_ : Aside0 ((w35.setCell ⟨go11,(t13 : Int).toNat * 5 + 3,none⟩ (.int .i64 t20)).heap[gb12]? = some (.cells #[.slice (some ⟨go11,0,none⟩) t8.length co23] 28 (0,0))):=⟨by (with_reducible repeat (first | refine blk_drewN ?_ _ | refine blk_drew ?_ | refine blk_alloc ?_ _));refine blk_far ?_ (by have h_:=Kd.R_ne HO10.out BK12.out (by decide);intro e_;exact h_ (by rw [e_];rfl)) _;(with_reducible repeat (first | refine blk_drewN ?_ _ | refine blk_drew ?_ | refine blk_alloc ?_ _));exact BK12.out⟩
     have n7_ : Aside0 (IsS76 w0 (w35.setCell ⟨go11,(t13 : Int).toNat * 5 + 3,none⟩ (.int .i64 t20)) g s0_0 t21):=⟨is0_⟩
     have n8_ : Aside0 (KeepBut w (w35.setCell ⟨go11,(t13 : Int).toNat * 5 + 3,none⟩ (.int .i64 t20)) g none):=⟨hk_⟩
     have n9_ : Aside0 (Below w0.heap.size w0 (w35.setCell ⟨go11,(t13 : Int).toNat * 5 + 3,none⟩ (.int .i64 t20))):=⟨by repeat (first | (with_reducible first | exact HB.out | apply below_alloc | apply pw_below_drewN | apply below_drew1 | refine below_set ?_ (Nat.le_trans HL.out GB11.out) | refine below_set ?_ (IsS76.ge HI0.out) | refine below_set ?_ GE1.out | refine below_set ?_ GE2.out | refine below_set ?_ GE7.out | refine below_set ?_ GE12.out) | exact HB.out)⟩
     (try clear HO5)
     (try clear HO10)
     (try clear HO19)
     (try clear BK1)
     (try clear BK2)
     (try clear BK7)
     (try clear BK12)
     (try clear HI0)
     (try clear HK)
     (try clear HB)
     generalize (w35.setCell ⟨go11,(t13 : Int).toNat * 5 + 3,none⟩ (.int .i64 t20)) = w37 at n0_ n1_ n2_ n3_ n4_ n5_ n6_ n7_ n8_ n9_ ⊢
     have HO5:=n0_
     have HO10:=n1_
     have HO19:=n2_
     have BK1:=n3_
     have BK2:=n4_
     have BK7:=n5_
     have BK12:=n6_
     have HI0:=n7_
     have HK:=n8_
     have HB:=n9_
     clear n0_ n1_ n2_ n3_ n4_ n5_ n6_ n7_ n8_ n9_
     try go_wp2
     have n0_:=a0_ (Kd.R_drew HO5.out)
     have n1_:=a0_ (Kd.R_drew HO10.out)
     have n2_:=a0_ (Kd.R_drew HO19.out)
     have n3_:=a0_ (blk_drew BK1.out)
     have n4_:=a0_ (blk_drew BK2.out)
     have n5_:=a0_ (blk_drew BK7.out)
     have n6_:=a0_ (blk_drew BK12.out)
     have n7_:=a0_ (IsS76.drew HI0.out)
     have n8_:=a0_ (keep_drew HK.out)
     have n9_:=a0_ (below_drew1 HB.out)
     clear HO5
     clear HO10
     clear HO19
     clear BK1
     clear BK2
     clear BK7
     clear BK12
     clear HI0
     clear HK
     clear HB
     have HO5:=n0_
     have HO10:=n1_
     have HO19:=n2_
     have BK1:=n3_
     have BK2:=n4_
     have BK7:=n5_
     have BK12:=n6_
     have HI0:=n7_
     have HK:=n8_
     have HB:=n9_
     clear n0_ n1_ n2_ n3_ n4_ n5_ n6_ n7_ n8_ n9_
     refine start_ (n:=4) (S:=fun w'=>w'.cell? ⟨gb7,0,none⟩ = some (.slice Ao16 t3.length co16) ∧ w'.cell? ⟨gb12,0,none⟩ = some (.slice (some ⟨go11,0,none⟩) t8.length co23)) (ds:=[]) #[false,false,false,false] (by kernel_rfl) rfl rfl ⟨(blk_cell BK7.out 0).trans rfl,(blk_cell BK12.out 0).trans rfl⟩ (fun hHeld=>?_)
     generalize w37.drew = w38 at HO5 HO10 HO19 BK1 BK2 BK7 BK12 HI0 HK HB hHeld ⊢
     refine take_ (i:=0) (N:=some 65) (v:=?_) (a':=?_) #[true,false,false,false] rfl rfl (by kernel_rfl) (fun _ _ _ h=>h) (Or.inl ⟨by rfl,?_⟩) hHeld ?_ ?_
     rotate_left
     ·rintro w' ⟨s0,s1⟩
      go_simp
      with_reducible rfl
     rotate_left
     ·simp only [Act.put,s1_,s2_,s3_,i64_w,i32_w]
      rfl
     refine take_ (i:=1) (N:=some 66) (v:=?_) (a':=?_) #[true,true,false,false] rfl rfl (by kernel_rfl) (fun _ _ _ h=>h) (Or.inl ⟨by rfl,?_⟩) hHeld ?_ ?_
     rotate_left
     ·rintro w' ⟨s0,s1⟩
      go_simp
      with_reducible rfl
     rotate_left
     ·simp only [Act.put,s1_,s2_,s3_,i64_w,i32_w]
      rfl
     refine one_ (i:=2) (N:=none) #[true,true,true,false] rfl rfl (by kernel_rfl) (by decide) (fun K hK=>?_)
     have hs39 : w38.cell? ⟨gb1,0,none⟩ = some (.slice none 0 0):=(blk_cell BK1.out 0).trans rfl
     have hfs39:=blk_frozen BK1.out 0
     have hns39_1:=NB2_1.out
     have hns39_2:=NB7_1.out
     have hns39_3:=NB12_1.out
     have hms39_1:=NB1_2.out
     have hms39_2:=NB1_7.out
     have hms39_3:=NB1_12.out
     refine skip_ (w1:=?_) (by rfl) rfl ?_ ?_
     rotate_left
     ·go_simp
      rfl
     refine hK.out _ _ ⟨((cell_far (p:=⟨gb1,_,none⟩) NB7_1.out _).trans (hHeld.1)),((cell_far (p:=⟨gb1,_,none⟩) NB12_1.out _).trans (hHeld.2))⟩ (fun hHeld=>?_)
     clear hK K
     refine one_ (i:=3) (N:=none) #[true,true,true,true] rfl rfl (by kernel_rfl) (by decide) (fun K hK=>?_)
     have hs40 : w38.cell? ⟨gb2,0,none⟩ = some (.slice none 0 0):=(blk_cell BK2.out 0).trans rfl
     have hfs40:=blk_frozen BK2.out 0
     have hns40_0:=NB1_2.out
     have hns40_2:=NB7_2.out
     have hns40_3:=NB12_2.out
     have hms40_0:=NB2_1.out
     have hms40_2:=NB2_7.out
     have hms40_3:=NB2_12.out
     refine skip_ (w1:=?_) (by rfl) rfl ?_ ?_
     rotate_left
     ·go_simp
      rfl
     refine hK.out _ _ ⟨((cell_far (p:=⟨gb2,_,none⟩) NB7_2.out _).trans (hHeld.1)),((cell_far (p:=⟨gb2,_,none⟩) NB12_2.out _).trans (hHeld.2))⟩ (fun hHeld=>?_)
     clear hK K
     refine done_ (by kernel_rfl) ?_
     try go_wp2
     refine bodyPost_ret (results_cc rfl _ _ gb1 gb2 25 28 #[.slice Ao16 t3.length co16] #[.slice (some ⟨go11,0,none⟩) t8.length co23] (0,0) (0,0) _ _ rfl (by (with_reducible repeat (first | refine blk_drewN ?_ _ | refine blk_drew ?_ | refine blk_alloc ?_ _));refine blk_far ?_ NB1_2.out _;(with_reducible repeat (first | refine blk_drewN ?_ _ | refine blk_drew ?_ | refine blk_alloc ?_ _));refine blk_put (cs:=#[.slice none 0 0]) ?_ 0 _ rfl;(with_reducible repeat (first | refine blk_drewN ?_ _ | refine blk_drew ?_ | refine blk_alloc ?_ _));exact BK1.out) Try.underlying25 rfl (by kernel_rfl) rfl (by (with_reducible repeat (first | refine blk_drewN ?_ _ | refine blk_drew ?_ | refine blk_alloc ?_ _));refine blk_put (cs:=#[.slice none 0 0]) ?_ 0 _ rfl;(with_reducible repeat (first | refine blk_drewN ?_ _ | refine blk_drew ?_ | refine blk_alloc ?_ _));refine blk_far ?_ NB2_1.out _;(with_reducible repeat (first | refine blk_drewN ?_ _ | refine blk_drew ?_ | refine blk_alloc ?_ _));exact BK2.out) Try.underlying28 rfl (by kernel_rfl)) rfl ?_
     exact ⟨_,_,by first | rfl | (simp [errW_none,errW_some] <;> rfl) | (simp [*,errW_none,errW_some] <;> rfl),by (with_reducible repeat (first | apply Kd.R_alloc | apply Kd.R_drewN | apply Kd.R_drew));exact Kd.R_mono (Kd.R_far (p:=⟨gb2,0,none⟩) (Kd.R_far (p:=⟨gb1,0,none⟩) (Kd.R_types (Kd.R_types HO5.out BK1.out (by decide)) BK2.out (by decide)) (fun _ hk=>hk.1.2) (.slice Ao16 t3.length co16)) (fun _ hk=>hk.2) (.slice (some ⟨go11,0,none⟩) t8.length co23)) (fun _ hk=>trivial),by (with_reducible repeat (first | apply Kd.R_alloc | apply Kd.R_drewN | apply Kd.R_drew));exact Kd.R_mono (Kd.R_far (p:=⟨gb2,0,none⟩) (Kd.R_far (p:=⟨gb1,0,none⟩) (Kd.R_types (Kd.R_types HO10.out BK1.out (by decide)) BK2.out (by decide)) (fun _ hk=>hk.1.2) (.slice Ao16 t3.length co16)) (fun _ hk=>hk.2) (.slice (some ⟨go11,0,none⟩) t8.length co23)) (fun _ hk=>trivial),is0_,hbi0_,hk_⟩
    ·rw [if_neg c10] at H
     exact absurd H (by simp)
   ·rw [if_neg c9] at H
    exact absurd H (by simp)
  ·rw [if_neg c7] at H
   have c7b0 : (t15 == 0) = false:=beq_eq_false_iff_ne.mpr c7
   have c7b1 : (t15 != 0) = true:=bne_iff_ne.mpr c7
   by_cases c41 : t15 = 1
   ·rw [if_pos c41] at H
    have c41b0 : (t15 == 1) = true:=beq_iff_eq.mpr c41
    have c41b1 : (t15 != 1) = false:=bne_eq_false_iff_eq.mpr c41
    clear c41
    replace H:=Option.bind_eq_some_iff.mp H
    obtain ⟨⟨t23,t24⟩,A420,H⟩:=H
    try dsimp only at H
    have A42:=a0_ A420
    clear A420
    by_cases c43 : 0 ≤ t13
    ·rw [if_pos c43] at H
     have c43b0 : decide (0 ≤ t13) = true:=decide_eq_true c43
     clear c43
     by_cases c44 : t13 < (t8.length : Int)
     ·rw [if_pos c44] at H
      have c44b0 : decide (t13 < (t8.length : Int)) = true:=decide_eq_true c44
      clear c44
      obtain ⟨y25,hy25⟩ : ∃ y_ : List (S43),y_ = (t8.set (t13 : Int).toNat (⟨t23,(rd_T43 t8 t13).f1,(rd_T43 t8 t13).f2,(rd_T43 t8 t13).f3,(rd_T43 t8 t13).f4⟩ : S43)):=⟨_,rfl⟩
      replace H : (some (t3,y25,t24)) = some (r1,r2,r3):=by first | (rw [hy25];with_reducible exact H) | (have H2_:=(Option.bind_some _ _).symm.trans H;rw [hy25];with_reducible exact H2_) | (have H2_:=(Option.bind_some _ _).symm.trans H;with_reducible exact H2_) | with_reducible exact H | (rw [hy25];exact H) | exact H
      have Ny25:=a0_ hy25
      clear hy25
      simp only [Option.some.injEq,Prod.mk.injEq] at H
      obtain ⟨rfl,rfl,rfl⟩:=H
      go_enter Try.func40,Try.ntmps40
      try go_wp2_with (first | ((with_reducible refine gate_dst (N:=2) rfl ?_);refine box_event ?hg (N:=2) ?hd (cs:=#[.slice none 0 0]) (t:=25) ?hr ?_;(case hd=>rfl);(case hg=>rfl);(case hr=>first | (go_simp;done) | (go_simp;rfl));intro gb1 hg w46 hbox hb;have n0_:=a0_ (IsS76.below is0_ hb);have n1_:=a0_ (KeepBut.trans (w:=w) hk_ (KeepBut.of_below hb g none) (.inl rfl));have n2_:=a0_ (below_step hbi0_ hb);have n3_:=a0_ (hbox);have n4_:=a0_ ((by rw [hg];exact (keep_size (w:=w) (g:=g) (row:=none) hk_) : w.heap.size ≤ gb1));have n5_:=a0_ ((Nat.le_trans HW0.out (by rw [hg];exact (keep_size (w:=w) (g:=g) (row:=none) hk_) : w.heap.size ≤ gb1) : w0.heap.size ≤ gb1));have n6_:=a0_ ((by rw [hg];exact Nat.ne_of_lt (IsS76.lt (is0_ : IsS76 w0 _ g s0_0 s0_1)) : g ≠ gb1));have n7_:=a0_ ((by rw [hg];exact Nat.ne_of_gt (IsS76.lt (is0_ : IsS76 w0 _ g s0_0 s0_1)) : gb1 ≠ g));clear HI0 HK HB;have HI0:=n0_;have HK:=n1_;have HB:=n2_;have BK1:=n3_;have GW1:=n4_;have GE1:=n5_;have NB0_1:=n6_;have NB1_0:=n7_;clear n0_ n1_ n2_ n3_ n4_ n5_ n6_ n7_;clear hb hbox hg) | ((with_reducible refine gate_dst (N:=3) rfl ?_);refine box_event ?hg (N:=3) ?hd (cs:=#[.slice none 0 0]) (t:=28) ?hr ?_;(case hd=>rfl);(case hg=>rfl);(case hr=>first | (go_simp;done) | (go_simp;rfl));intro gb2 hg w47 hbox hb;have n0_:=a0_ (IsS76.below is0_ hb);have n1_:=kb_ BK1 hb;have n2_:=a0_ (KeepBut.trans (w:=w) hk_ (KeepBut.of_below hb g none) (.inl rfl));have n3_:=a0_ (below_step hbi0_ hb);have n4_:=a0_ (hbox);have n5_:=a0_ ((by rw [hg];exact (keep_size (w:=w) (g:=g) (row:=none) hk_) : w.heap.size ≤ gb2));have n6_:=a0_ ((Nat.le_trans HW0.out (by rw [hg];exact (keep_size (w:=w) (g:=g) (row:=none) hk_) : w.heap.size ≤ gb2) : w0.heap.size ≤ gb2));have n7_:=a0_ ((by rw [hg];exact Nat.ne_of_lt (blk_lt (bb_ BK1.out)) : gb1 ≠ gb2));have n8_:=a0_ ((by rw [hg];exact Nat.ne_of_gt (blk_lt (bb_ BK1.out)) : gb2 ≠ gb1));have n9_:=a0_ ((by rw [hg];exact Nat.ne_of_lt (IsS76.lt (is0_ : IsS76 w0 _ g s0_0 s0_1)) : g ≠ gb2));have n10_:=a0_ ((by rw [hg];exact Nat.ne_of_gt (IsS76.lt (is0_ : IsS76 w0 _ g s0_0 s0_1)) : gb2 ≠ g));clear HI0 BK1;clear HK HB;have HI0:=n0_;have BK1:=n1_;have HK:=n2_;have HB:=n3_;have BK2:=n4_;have GW2:=n5_;have GE2:=n6_;have NB1_2:=n7_;have NB2_1:=n8_;have NB0_2:=n9_;have NB2_0:=n10_;clear n0_ n1_ n2_ n3_ n4_ n5_ n6_ n7_ n8_ n9_ n10_;clear hb hbox hg) | ((with_reducible refine gate_callee (f:=66) rfl ?_);refine goesL_ (some 8) rfl rfl Try.func66 (by kernel_rfl) rfl #[.pointer (some ⟨g,0,none⟩)] rfl lm_ ?_;(with_reducible refine (spec_someTree.calls k g s0_0 s0_1 t3 t6 w0 _ ?side1 ?side2 A2.out).mono ?_);(case side1=>exact is0_);(case side2=>exact hbi0_);rintro e w48 ⟨v4,rfl,ho0,hi,hb,hk⟩;refine ⟨_,rfl,?_⟩;replace BK1:=kk_ hk BK1 NB1_0;replace BK2:=kk_ hk BK2 NB2_0;have HO5:=a0_ (Kd.R_lower ho0 (keep_size (w:=w) (g:=g) (row:=none) hk_));replace HK:=a0_ (KeepBut.trans (w:=w) hk_ hk (.inl rfl));replace HI0:=a0_ (hi);replace HB:=a0_ (hb);(try clear hb);(try clear ho0)) | ((with_reducible refine gate_dst (N:=4) rfl ?_);refine box_event ?hg (N:=4) ?hd (cs:=#[.slice none 0 0]) (t:=25) ?hr ?_;(case hd=>rfl);(case hg=>rfl);(case hr=>first | (go_simp;done) | (go_simp;rfl));intro gb7 hg w49 hbox hb;have n0_:=rb_ HO5 hb;have n1_:=a0_ (IsS76.below is0_ hb);have n2_:=kb_ BK1 hb;have n3_:=kb_ BK2 hb;have n4_:=a0_ (KeepBut.trans (w:=w) hk_ (KeepBut.of_below hb g none) (.inl rfl));have n5_:=a0_ (below_step hbi0_ hb);have n6_:=a0_ (hbox);have n7_:=a0_ ((by rw [hg];exact (keep_size (w:=w) (g:=g) (row:=none) hk_) : w.heap.size ≤ gb7));have n8_:=a0_ ((Nat.le_trans HW0.out (by rw [hg];exact (keep_size (w:=w) (g:=g) (row:=none) hk_) : w.heap.size ≤ gb7) : w0.heap.size ≤ gb7));have n9_:=a0_ ((by rw [hg];exact Nat.ne_of_lt (blk_lt (bb_ BK1.out)) : gb1 ≠ gb7));have n10_:=a0_ ((by rw [hg];exact Nat.ne_of_gt (blk_lt (bb_ BK1.out)) : gb7 ≠ gb1));have n11_:=a0_ ((by rw [hg];exact Nat.ne_of_lt (blk_lt (bb_ BK2.out)) : gb2 ≠ gb7));have n12_:=a0_ ((by rw [hg];exact Nat.ne_of_gt (blk_lt (bb_ BK2.out)) : gb7 ≠ gb2));have n13_:=a0_ ((by rw [hg];exact Nat.ne_of_lt (IsS76.lt (is0_ : IsS76 w0 _ g s0_0 t6)) : g ≠ gb7));have n14_:=a0_ ((by rw [hg];exact Nat.ne_of_gt (IsS76.lt (is0_ : IsS76 w0 _ g s0_0 t6)) : gb7 ≠ g));clear HO5 HI0;clear BK1 BK2;clear HK HB;have HO5:=n0_;have HI0:=n1_;have BK1:=n2_;have BK2:=n3_;have HK:=n4_;have HB:=n5_;have BK7:=n6_;have GW7:=n7_;have GE7:=n8_;have NB1_7:=n9_;have NB7_1:=n10_;have NB2_7:=n11_;have NB7_2:=n12_;have NB0_7:=n13_;have NB7_0:=n14_;clear n0_ n1_ n2_ n3_ n4_ n5_ n6_ n7_ n8_ n9_ n10_ n11_ n12_ n13_ n14_;clear hb hbox hg;obtain ⟨Ao50,co50,eo50⟩:=Kd.R_slice HO5.out;subst eo50;have hnb51:=NB7_1.out;have hnc51:=NB1_7.out;have hnb52:=NB7_2.out;have hnc52:=NB2_7.out;have hnb53:=NB7_0.out;have hnc53:=NB0_7.out;have hcz54_0 : w49.cell? ⟨gb7,0,none⟩ = some (.slice none 0 0):=(blk_cell BK7.out 0).trans rfl;have hfz54_0:=blk_frozen BK7.out 0) | ((with_reducible refine gate_callee (f:=67) rfl ?_);refine goesL_ (some 11) rfl rfl Try.func67 (by kernel_rfl) rfl #[.pointer (some ⟨g,0,none⟩),.agg #[.slice Ao50 t3.length co50]] rfl lm_ ?_;(with_reducible refine (spec_goodHeap.calls k g s0_0 t6 _ _ t3 t8 t11 w0 _ ?side1 ?side2 ?side3 ?side4 A3.out).mono ?_);(case side1=>exact is0_);(case side2=>exact hbi0_);(case side3=>exact Kd.C_foot_own (IsS76.apart (is0_ : IsS76 w0 _ g s0_0 t6) (by (with_reducible repeat (first | apply Kd.R_alloc | apply Kd.R_drewN | apply Kd.R_drew));exact (Kd.R_mono (Kd.R_far (p:=⟨gb7,0,none⟩) (Kd.R_types HO5.out BK7.out (by decide)) (fun _ hk=>hk.2) (.slice Ao50 t3.length co50)) (fun _ h_=>h_.1))) (by decide)) (fun _ h_=>h_.2));(case side4=>exact (Kd.R_reads' HO5.out).2.1);rintro e w55 ⟨v9,rfl,ho0,hi,hb,hk⟩;refine ⟨_,rfl,?_⟩;replace BK1:=kk_ hk BK1 NB1_0;replace BK2:=kk_ hk BK2 NB2_0;replace HO5:=a0_ (Kd.R_mono (Kd.R_keep (IsS76.apart (is0_ : IsS76 w0 _ g s0_0 t6) (by (with_reducible repeat (first | apply Kd.R_alloc | apply Kd.R_drewN | apply Kd.R_drew));exact (Kd.R_mono (Kd.R_far (p:=⟨gb7,0,none⟩) (Kd.R_types HO5.out BK7.out (by decide)) (fun _ hk=>hk.2) (.slice Ao50 t3.length co50)) (fun _ h_=>h_.1))) (by decide)) hk (fun _ h=>h.2)) (fun _ h=>h.1));replace BK7:=a0_ (KeepBut.blk hk (g':=gb7) (o:=.cells #[.slice Ao50 t3.length co50] 25 (0,0)) (by (with_reducible repeat (first | refine blk_drewN ?_ _ | refine blk_drew ?_ | refine blk_alloc ?_ _));refine blk_put (cs:=#[.slice none 0 0]) ?_ 0 _ rfl;(with_reducible repeat (first | refine blk_drewN ?_ _ | refine blk_drew ?_ | refine blk_alloc ?_ _));exact BK7.out) NB7_0.out (by simp));have HO10:=a0_ (Kd.R_lower ho0 (keep_size (w:=w) (g:=g) (row:=none) hk_));replace HK:=a0_ (KeepBut.trans (w:=w) hk_ hk (.inl rfl));replace HI0:=a0_ (hi);replace HB:=a0_ (hb);(try clear hb);(try clear ho0)) | ((with_reducible refine gate_dst (N:=5) rfl ?_);refine box_event ?hg (N:=5) ?hd (cs:=#[.slice none 0 0]) (t:=28) ?hr ?_;(case hd=>rfl);(case hg=>rfl);(case hr=>first | (go_simp;done) | (go_simp;rfl));intro gb12 hg w56 hbox hb;have n0_:=rb_ HO5 hb;have n1_:=rb_ HO10 hb;have n2_:=a0_ (IsS76.below is0_ hb);have n3_:=kb_ BK1 hb;have n4_:=kb_ BK2 hb;have n5_:=kb_ BK7 hb;have n6_:=a0_ (KeepBut.trans (w:=w) hk_ (KeepBut.of_below hb g none) (.inl rfl));have n7_:=a0_ (below_step hbi0_ hb);have n8_:=a0_ (hbox);have n9_:=a0_ ((by rw [hg];exact (keep_size (w:=w) (g:=g) (row:=none) hk_) : w.heap.size ≤ gb12));have n10_:=a0_ ((Nat.le_trans HW0.out (by rw [hg];exact (keep_size (w:=w) (g:=g) (row:=none) hk_) : w.heap.size ≤ gb12) : w0.heap.size ≤ gb12));have n11_:=a0_ ((by rw [hg];exact Nat.ne_of_lt (blk_lt (bb_ BK1.out)) : gb1 ≠ gb12));have n12_:=a0_ ((by rw [hg];exact Nat.ne_of_gt (blk_lt (bb_ BK1.out)) : gb12 ≠ gb1));have n13_:=a0_ ((by rw [hg];exact Nat.ne_of_lt (blk_lt (bb_ BK2.out)) : gb2 ≠ gb12));have n14_:=a0_ ((by rw [hg];exact Nat.ne_of_gt (blk_lt (bb_ BK2.out)) : gb12 ≠ gb2));have n15_:=a0_ ((by rw [hg];exact Nat.ne_of_lt (blk_lt (bb_ BK7.out)) : gb7 ≠ gb12));have n16_:=a0_ ((by rw [hg];exact Nat.ne_of_gt (blk_lt (bb_ BK7.out)) : gb12 ≠ gb7));have n17_:=a0_ ((by rw [hg];exact Nat.ne_of_lt (IsS76.lt (is0_ : IsS76 w0 _ g s0_0 t11)) : g ≠ gb12));have n18_:=a0_ ((by rw [hg];exact Nat.ne_of_gt (IsS76.lt (is0_ : IsS76 w0 _ g s0_0 t11)) : gb12 ≠ g));clear HO5 HO10;clear HI0 BK1;clear BK2 BK7;clear HK HB;have HO5:=n0_;have HO10:=n1_;have HI0:=n2_;have BK1:=n3_;have BK2:=n4_;have BK7:=n5_;have HK:=n6_;have HB:=n7_;have BK12:=n8_;have GW12:=n9_;have GE12:=n10_;have NB1_12:=n11_;have NB12_1:=n12_;have NB2_12:=n13_;have NB12_2:=n14_;have NB7_12:=n15_;have NB12_7:=n16_;have NB0_12:=n17_;have NB12_0:=n18_;clear n0_ n1_ n2_ n3_ n4_ n5_ n6_ n7_ n8_ n9_ n10_ n11_ n12_ n13_ n14_ n15_ n16_ n17_ n18_;clear hb hbox hg;obtain ⟨Ao57,co57,eo57⟩:=Kd.R_slice HO10.out;subst eo57;have hnb58:=NB12_1.out;have hnc58:=NB1_12.out;have hnb59:=NB12_2.out;have hnc59:=NB2_12.out;have hnb60:=NB12_7.out;have hnc60:=NB7_12.out;have hnb61:=NB12_0.out;have hnc61:=NB0_12.out;have hcz62_0 : w56.cell? ⟨gb12,0,none⟩ = some (.slice none 0 0):=(blk_cell BK12.out 0).trans rfl;have hfz62_0:=blk_frozen BK12.out 0) | ((with_reducible refine gate_callee (f:=48) rfl ?_);refine goesL_ (some 20) rfl rfl Try.func48 (by kernel_rfl) rfl #[.pointer (some ⟨g,0,none⟩),.int .i64 (t8.length : Int)] rfl lm_ ?_;(with_reducible refine (spec_reader_pick.calls k g s0_0 t11 (t8.length : Int) t13 t14 w0 _ ?side1 ?side2 A5.out).mono ?_);(case side1=>exact is0_);(case side2=>exact hbi0_);rintro e w63 ⟨rfl,hi,hb,hk⟩;refine ⟨_,rfl,?_⟩;replace BK1:=kk_ hk BK1 NB1_0;replace BK2:=kk_ hk BK2 NB2_0;replace HO5:=a0_ (Kd.R_mono (Kd.R_keep (IsS76.apart (is0_ : IsS76 w0 _ g s0_0 t11) (by (with_reducible repeat (first | apply Kd.R_alloc | apply Kd.R_drewN | apply Kd.R_drew));exact (Kd.R_mono (Kd.R_far (p:=⟨gb12,0,none⟩) (Kd.R_types HO5.out BK12.out (by decide)) (fun _ hk=>hk.2) (.slice Ao57 t8.length co57)) (fun _ h_=>h_.1))) (by decide)) hk (fun _ h=>h.2)) (fun _ h=>h.1));replace BK7:=kk_ hk BK7 NB7_0;replace HO10:=a0_ (Kd.R_mono (Kd.R_keep (IsS76.apart (is0_ : IsS76 w0 _ g s0_0 t11) (by (with_reducible repeat (first | apply Kd.R_alloc | apply Kd.R_drewN | apply Kd.R_drew));exact (Kd.R_mono (Kd.R_far (p:=⟨gb12,0,none⟩) (Kd.R_types HO10.out BK12.out (by decide)) (fun _ hk=>hk.2) (.slice Ao57 t8.length co57)) (fun _ h_=>h_.1))) (by decide)) hk (fun _ h=>h.2)) (fun _ h=>h.1));replace BK12:=a0_ (KeepBut.blk hk (g':=gb12) (o:=.cells #[.slice Ao57 t8.length co57] 28 (0,0)) (by (with_reducible repeat (first | refine blk_drewN ?_ _ | refine blk_drew ?_ | refine blk_alloc ?_ _));refine blk_put (cs:=#[.slice none 0 0]) ?_ 0 _ rfl;(with_reducible repeat (first | refine blk_drewN ?_ _ | refine blk_drew ?_ | refine blk_alloc ?_ _));exact BK12.out) NB12_0.out (by simp));replace HK:=a0_ (KeepBut.trans (w:=w) hk_ hk (.inl rfl));replace HI0:=a0_ (hi);replace HB:=a0_ (hb);(try clear hb);(try clear hb2);(try clear hk);(try clear hi)) | ((with_reducible refine gate_callee (f:=48) rfl ?_);refine goesL_ (some 22) rfl rfl Try.func48 (by kernel_rfl) rfl #[.pointer (some ⟨g,0,none⟩),.int .i64 24] rfl lm_ ?_;(with_reducible refine (spec_reader_pick.calls k g s0_0 t14 24 t15 t16 w0 _ ?side1 ?side2 A6.out).mono ?_);(case side1=>exact is0_);(case side2=>exact hbi0_);rintro e w64 ⟨rfl,hi,hb,hk⟩;refine ⟨_,rfl,?_⟩;replace BK1:=kk_ hk BK1 NB1_0;replace BK2:=kk_ hk BK2 NB2_0;replace HO5:=a0_ (Kd.R_mono (Kd.R_keep (IsS76.apart (is0_ : IsS76 w0 _ g s0_0 t14) (rr_ HO5.out) (by decide)) hk (fun _ h=>h.2)) (fun _ h=>h.1));replace BK7:=kk_ hk BK7 NB7_0;replace HO10:=a0_ (Kd.R_mono (Kd.R_keep (IsS76.apart (is0_ : IsS76 w0 _ g s0_0 t14) (rr_ HO10.out) (by decide)) hk (fun _ h=>h.2)) (fun _ h=>h.1));replace BK12:=kk_ hk BK12 NB12_0;replace HK:=a0_ (KeepBut.trans (w:=w) hk_ hk (.inl rfl));replace HI0:=a0_ (hi);replace HB:=a0_ (hb);(try clear hb);(try clear hb2);(try clear hk);(try clear hi)))
      have n0_:=a0_ (Kd.R_drew HO5.out)
      have n1_:=a0_ (Kd.R_drew HO10.out)
      have n2_:=a0_ (blk_drew BK1.out)
      have n3_:=a0_ (blk_drew BK2.out)
      have n4_:=a0_ (blk_drew BK7.out)
      have n5_:=a0_ (blk_drew BK12.out)
      have n6_:=a0_ (IsS76.drew HI0.out)
      have n7_:=a0_ (keep_drew HK.out)
      have n8_:=a0_ (below_drew1 HB.out)
      clear HO5
      clear HO10
      clear BK1
      clear BK2
      clear BK7
      clear BK12
      clear HI0
      clear HK
      clear HB
      have HO5:=n0_
      have HO10:=n1_
      have BK1:=n2_
      have BK2:=n3_
      have BK7:=n4_
      have BK12:=n5_
      have HI0:=n6_
      have HK:=n7_
      have HB:=n8_
      clear n0_ n1_ n2_ n3_ n4_ n5_ n6_ n7_ n8_
      refine start_ (n:=9) (S:=fun w'=>w'.cell? ⟨gb12,0,none⟩ = some (.slice Ao57 t8.length co57) ∧ w'.cell? ⟨gb7,0,none⟩ = some (.slice Ao50 t3.length co50)) (ds:=[8]) #[false,false,false,false,false,false,false,false,false] (by kernel_rfl) rfl rfl ⟨(blk_cell BK12.out 0).trans rfl,(blk_cell BK7.out 0).trans rfl⟩ (fun hHeld=>?_);refine with_tabW spec_someHeap.tab9 spec_someHeap.bits9 (fun HT_ HW_=>?_)
      generalize w64.drew = w65 at HO5 HO10 BK1 BK2 BK7 BK12 HI0 HK HB hHeld ⊢
      refine pure_ (i:=0) (N:=some 36) (v:=?_) (a':=?_) #[true,false,false,false,false,false,false,false,false] rfl rfl (any_of HT_.out (by kernel_rfl)) (fun _ _ _ h=>h) (Or.inl ⟨by rfl,?_⟩) ?_ ?_
      rotate_left
      ·intro w'
       go_simp
       with_reducible rfl
      rotate_left
      ·simp only [Act.put,s1_,s2_,s3_,i64_w,i32_w]
       rfl
      refine pure_ (i:=2) (N:=some 38) (v:=?_) (a':=?_) #[true,false,true,false,false,false,false,false,false] rfl rfl (any_of HT_.out (by kernel_rfl)) (fun _ _ _ h=>h) (Or.inl ⟨by rfl,?_⟩) ?_ ?_
      rotate_left
      ·intro w'
       go_simp
       with_reducible rfl
      rotate_left
      ·simp only [Act.put,s1_,s2_,s3_,i64_w,i32_w]
       rfl
      refine pure_ (i:=3) (N:=some 39) (v:=?_) (a':=?_) #[true,false,true,true,false,false,false,false,false] rfl rfl (any_of HT_.out (by kernel_rfl)) (fun _ _ _ h=>h) (Or.inl ⟨by rfl,?_⟩) ?_ ?_
      rotate_left
      ·intro w'
       go_simp
       with_reducible rfl
      rotate_left
      ·simp only [Act.put,s1_,s2_,s3_,i64_w,i32_w]
       rfl
      refine take_ (i:=1) (N:=some 37) (v:=?_) (a':=?_) #[true,true,true,true,false,false,false,false,false] rfl rfl (take_ofW HT_.out HW_.out (by kernel_rfl)) (fun _ _ _ h=>h) (Or.inl ⟨by rfl,?_⟩) hHeld ?_ ?_
      rotate_left
      ·rintro w' ⟨s0,s1⟩
       go_simp
       with_reducible rfl
      rotate_left
      ·simp only [Act.put,s1_,s2_,s3_,i64_w,i32_w]
       rfl
      refine take_ (i:=4) (N:=some 40) (v:=?_) (a':=?_) #[true,true,true,true,true,false,false,false,false] rfl rfl (take_ofW HT_.out HW_.out (by kernel_rfl)) (fun _ _ _ h=>h) (Or.inl ⟨by rfl,?_⟩) hHeld ?_ ?_
      rotate_left
      ·rintro w' ⟨s0,s1⟩
       go_simp
       with_reducible rfl
      rotate_left
      ·simp only [Act.put,s1_,s2_,s3_,i64_w,i32_w]
       rfl
      refine one_ (i:=5) (N:=some 41) #[true,true,true,true,true,true,false,false,false] rfl rfl (one_of HT_.out (by kernel_rfl)) (by decide) (fun K hK=>?_)
      refine goes_ Try.func41 (by kernel_rfl) rfl #[.pointer (some ⟨g,0,none⟩),.agg #[.slice Ao50 t3.length co50]] (by rfl) rfl rfl lm_ ?_
      with_reducible refine (spec_aClass.calls k g s0_0 t16 _ _ t3 t23 t24 w0 _ ?side1 ?side2 ?side3 ?side4 A42.out).mono ?_
      (case side1=>exact is0_)
      (case side2=>exact hbi0_)
      (case side3=>exact Kd.C_foot_own (IsS76.apart (is0_ : IsS76 w0 _ g s0_0 t16) (rr_ HO5.out) (by decide)) (fun _ h_=>h_.2))
      (case side4=>exact (Kd.R_reads' HO5.out).2.1)
      rintro e w66 ⟨rfl,hi,hb,hk⟩
      refine ⟨_,rfl,?_⟩
      have n0_:=kk_ hk BK1 NB1_0
      have n1_:=kk_ hk BK2 NB2_0
      have n2_:=a0_ (Kd.R_mono (Kd.R_keep (IsS76.apart (is0_ : IsS76 w0 _ g s0_0 t16) (rr_ HO5.out) (by decide)) hk (fun _ h=>h.2)) (fun _ h=>h.1))
      have n3_:=kk_ hk BK7 NB7_0
      have n4_:=a0_ (Kd.R_mono (Kd.R_keep (IsS76.apart (is0_ : IsS76 w0 _ g s0_0 t16) (rr_ HO10.out) (by decide)) hk (fun _ h=>h.2)) (fun _ h=>h.1))
      have n5_:=kk_ hk BK12 NB12_0
      have n6_:=a0_ (KeepBut.trans (w:=w) hk_ hk (.inl rfl))
      have n7_:=a0_ (hb)
      have n8_:=a0_ (hi)
      clear BK1
      clear BK2
      clear HO5
      clear BK7
      clear HO10
      clear BK12
      clear HK
      clear HB
      clear HI0
      have BK1:=n0_
      have BK2:=n1_
      have HO5:=n2_
      have BK7:=n3_
      have HO10:=n4_
      have BK12:=n5_
      have HK:=n6_
      have HB:=n7_
      have HI0:=n8_
      clear n0_ n1_ n2_ n3_ n4_ n5_ n6_ n7_ n8_
      (try clear hb)
      (try clear hb2)
      (try clear hk)
      (try clear hi)
      have p45 : 0 ≤ (t13 : Int):=of_decide_eq_true (by first | (with_reducible assumption) | assumption)
      have q45 : (t13 : Int) < ((t8.length : Int) : Int):=of_decide_eq_true (by first | (with_reducible assumption) | assumption)
      obtain ⟨go45,co45,eo45,gb45,gl45,cl45,HG45⟩:=Kd.R_form HO10.out (by omega)
      (first | cases eo45 | (injection eo45 with ea_ en_ ec_;(first | subst ea_ | (injection ea_ with ea_;subst ea_));subst ec_;clear en_))
      have GB45:=a0_ gb45
      have GG45:=a0_ HG45
      clear gb45 gl45 HG45
      obtain ⟨ce45,hcl45,hM45,hcc45,hfr45⟩:=Kd.R_elem HO10.out z43 (t13 : Int) p45 q45
      obtain rfl:=k43_openM hM45
      have hx45_0 : World.cell? _ ⟨go45,(t13 : Int).toNat * 5,none⟩ = some (.int .i64 ((rd_T43 t8 t13).f0)):=hcc45 0 _ rfl
      have hx45_1 : World.cell? _ ⟨go45,(t13 : Int).toNat * 5 + 1,none⟩ = some (.int .i64 ((rd_T43 t8 t13).f1)):=hcc45 1 _ rfl
      have hx45_2 : World.cell? _ ⟨go45,(t13 : Int).toNat * 5 + 2,none⟩ = some (.int .i64 ((rd_T43 t8 t13).f2)):=hcc45 2 _ rfl
      have hx45_3 : World.cell? _ ⟨go45,(t13 : Int).toNat * 5 + 3,none⟩ = some (.int .i64 ((rd_T43 t8 t13).f3)):=hcc45 3 _ rfl
      have hx45_4 : World.cell? _ ⟨go45,(t13 : Int).toNat * 5 + 4,none⟩ = some (.bool ((rd_T43 t8 t13).f4)):=hcc45 4 _ rfl
      have hf45_0 : World.frozen? _ ⟨go45,(t13 : Int).toNat * 5,none⟩ = false:=hfr45 0
      have hf45_1 : World.frozen? _ ⟨go45,(t13 : Int).toNat * 5 + 1,none⟩ = false:=hfr45 1
      have hf45_2 : World.frozen? _ ⟨go45,(t13 : Int).toNat * 5 + 2,none⟩ = false:=hfr45 2
      have hf45_3 : World.frozen? _ ⟨go45,(t13 : Int).toNat * 5 + 3,none⟩ = false:=hfr45 3
      have hf45_4 : World.frozen? _ ⟨go45,(t13 : Int).toNat * 5 + 4,none⟩ = false:=hfr45 4
      clear hcl45 hcc45 hfr45 hM45
      replace p45:=eq_true p45
      replace q45:=eq_true q45
      have HN0_go45:=a0_ (show g ≠ go45 from by have h_:=IsS76.own_ne HI0.out HO10.out (by decide);intro e_;exact h_ (by rw [e_];rfl))
      obtain ⟨ce67,hcl67,hM67,hcc67,hfr67⟩:=Kd.R_elem HO10.out z43 (t13 : Int) (of_decide_eq_true (by first | (with_reducible assumption) | assumption)) (by have h_ : (t13 : Int) < ((t8.length : Int) : Int):=of_decide_eq_true (by first | (with_reducible assumption) | assumption);first | exact h_ | (have e_:=(Kd.R_reads' HO10.out).1;omega) | simpa using h_)
      obtain rfl:=k43_openM hM67
      have HP67:=(Kd.R_seg HO10.out (t13 : Int) (of_decide_eq_true (by first | (with_reducible assumption) | assumption)) (by have h_ : (t13 : Int) < ((t8.length : Int) : Int):=of_decide_eq_true (by first | (with_reducible assumption) | assumption);first | exact h_ | (have e_:=(Kd.R_reads' HO10.out).1;omega) | simpa using h_) (seg:=[.int .i64 t23]) (j:=0) hcl67 hcc67 (show 1 ≤ 5 from by decide) (x':=(⟨t23,(rd_T43 t8 t13).f1,(rd_T43 t8 t13).f2,(rd_T43 t8 t13).f3,(rd_T43 t8 t13).f4⟩ : S43)) (k43_mkM _ _ _ (⟨t23,(rd_T43 t8 t13).f1,(rd_T43 t8 t13).f2,(rd_T43 t8 t13).f3,(rd_T43 t8 t13).f4⟩ : S43) ) (fun _ hk=>hk)).1
      rw [← Ny25.out] at HP67
      have HQ67:=a0_ HP67
      clear hcl67 hcc67 hfr67 hM67 HP67
      refine hK.out _ _ ⟨(blk_cell BK12.out 0).trans rfl,(blk_cell BK7.out 0).trans rfl⟩ (fun hHeld=>?_)
      clear hK K
      refine norm_ (a':=?_) ?_ ?_
      rotate_left
      ·show Act.put _ (some 41) _ = _
       simp only [Act.put,s1_,s2_,s3_,i64_w,i32_w]
       rfl
      refine pure_ (i:=6) (N:=some 42) (v:=?_) (a':=?_) #[true,true,true,true,true,true,true,false,false] rfl rfl (any_of HT_.out (by kernel_rfl)) (fun _ _ _ h=>h) (Or.inl ⟨by rfl,?_⟩) ?_ ?_
      rotate_left
      ·intro w'
       go_simp
       with_reducible rfl
      rotate_left
      ·simp only [Act.put,s1_,s2_,s3_,i64_w,i32_w]
       rfl
      refine pure_ (i:=7) (N:=some 43) (v:=?_) (a':=?_) #[true,true,true,true,true,true,true,true,false] rfl rfl (any_of HT_.out (by kernel_rfl)) (fun _ _ _ h=>h) (Or.inl ⟨by rfl,?_⟩) ?_ ?_
      rotate_left
      ·intro w'
       go_simp
       with_reducible rfl
      rotate_left
      ·simp only [Act.put,s1_,s2_,s3_,i64_w,i32_w]
       rfl
      refine last_ (i:=8) (N:=none) #[true,true,true,true,true,true,true,true,true] rfl rfl (one_of HT_.out (by kernel_rfl)) (by decide) (fun K hK=>?_)
      refine skip_ (w1:=?_) (by rfl) rfl ?_ ?_
      rotate_left
      ·go_simp
       rfl
      refine hK.out _ _ ?_
      clear hK K
      refine done_ (done_of HT_.out (by kernel_rfl)) ?_
      have n0_ : Aside0 (Kd.R k87 87 (w66.setCell ⟨go45,(t13 : Int).toNat * 5,none⟩ (.int .i64 t23)) w.heap.size (fun _=>True) (.slice Ao50 t3.length co50) t3):=⟨by (with_reducible repeat (first | apply Kd.R_alloc | apply Kd.R_drewN | apply Kd.R_drew));exact Kd.R_mono (Kd.R_far (p:=⟨go45,(t13 : Int).toNat * 5,none⟩) (Kd.R_types HO5.out GG45.out (by decide)) (fun _ hk=>hk.2) (.int .i64 t23)) (fun _ hk=>trivial)⟩
      have n1_ : Aside0 (Kd.R k43 43 (w66.setCell ⟨go45,(t13 : Int).toNat * 5,none⟩ (.int .i64 t23)) w.heap.size (fun _=>True) (.slice (some ⟨go45,0,none⟩) t8.length co57) y25):=⟨by (with_reducible repeat (first | apply Kd.R_alloc | apply Kd.R_drewN | apply Kd.R_drew));exact HQ67.out⟩
      have n2_ : Aside0 ((w66.setCell ⟨go45,(t13 : Int).toNat * 5,none⟩ (.int .i64 t23)).heap[gb1]? = some (.cells #[.slice none 0 0] 25 (0,0))):=⟨by (with_reducible repeat (first | refine blk_drewN ?_ _ | refine blk_drew ?_ | refine blk_alloc ?_ _));refine blk_far ?_ (by have h_:=Kd.R_ne HO10.out BK1.out (by decide);intro e_;exact h_ (by rw [e_];rfl)) _;(with_reducible repeat (first | refine blk_drewN ?_ _ | refine blk_drew ?_ | refine blk_alloc ?_ _));exact BK1.out⟩
      have n3_ : Aside0 ((w66.setCell ⟨go45,(t13 : Int).toNat * 5,none⟩ (.int .i64 t23)).heap[gb2]? = some (.cells #[.slice none 0 0] 28 (0,0))):=⟨by (with_reducible repeat (first | refine blk_drewN ?_ _ | refine blk_drew ?_ | refine blk_alloc ?_ _));refine blk_far ?_ (by have h_:=Kd.R_ne HO10.out BK2.out (by decide);intro e_;exact h_ (by rw [e_];rfl)) _;(with_reducible repeat (first | refine blk_drewN ?_ _ | refine blk_drew ?_ | refine blk_alloc ?_ _));exact BK2.out⟩
      have n4_ : Aside0 ((w66.setCell ⟨go45,(t13 : Int).toNat * 5,none⟩ (.int .i64 t23)).heap[gb7]? = some (.cells #[.slice Ao50 t3.length co50] 25 (0,0))):=⟨by (with_reducible repeat (first | refine blk_drewN ?_ _ | refine blk_drew ?_ | refine blk_alloc ?_ _));refine blk_far ?_ (by have h_:=Kd.R_ne HO10.out BK7.out (by decide);intro e_;exact h_ (by rw [e_];rfl)) _;(with_reducible repeat (first | refine blk_drewN ?_ _ | refine blk_drew ?_ | refine blk_alloc ?_ _));exact BK7.out⟩
      have n5_ : Aside0 ((w66.setCell ⟨go45,(t13 : Int).toNat * 5,none⟩ (.int .i64 t23)).heap[gb12]? = some (.cells #[.slice (some ⟨go45,0,none⟩) t8.length co57] 28 (0,0))):=⟨by (with_reducible repeat (first | refine blk_drewN ?_ _ | refine blk_drew ?_ | refine blk_alloc ?_ _));refine blk_far ?_ (by have h_:=Kd.R_ne HO10.out BK12.out (by decide);intro e_;exact h_ (by rw [e_];rfl)) _;(with_reducible repeat (first | refine blk_drewN ?_ _ | refine blk_drew ?_ | refine blk_alloc ?_ _));exact BK12.out⟩
      have n6_ : Aside0 (IsS76 w0 (w66.setCell ⟨go45,(t13 : Int).toNat * 5,none⟩ (.int .i64 t23)) g s0_0 t24):=⟨is0_⟩
      have n7_ : Aside0 (KeepBut w (w66.setCell ⟨go45,(t13 : Int).toNat * 5,none⟩ (.int .i64 t23)) g none):=⟨hk_⟩
      have n8_ : Aside0 (Below w0.heap.size w0 (w66.setCell ⟨go45,(t13 : Int).toNat * 5,none⟩ (.int .i64 t23))):=⟨by repeat (first | (with_reducible first | exact HB.out | apply below_alloc | apply pw_below_drewN | apply below_drew1 | refine below_set ?_ (Nat.le_trans HL.out GB45.out) | refine below_set ?_ (IsS76.ge HI0.out) | refine below_set ?_ GE1.out | refine below_set ?_ GE2.out | refine below_set ?_ GE7.out | refine below_set ?_ GE12.out) | exact HB.out)⟩
      (try clear HO5)
      (try clear HO10)
      (try clear BK1)
      (try clear BK2)
      (try clear BK7)
      (try clear BK12)
      (try clear HI0)
      (try clear HK)
      (try clear HB)
      generalize (w66.setCell ⟨go45,(t13 : Int).toNat * 5,none⟩ (.int .i64 t23)) = w68 at n0_ n1_ n2_ n3_ n4_ n5_ n6_ n7_ n8_ ⊢
      have HO5:=n0_
      have HO10:=n1_
      have BK1:=n2_
      have BK2:=n3_
      have BK7:=n4_
      have BK12:=n5_
      have HI0:=n6_
      have HK:=n7_
      have HB:=n8_
      clear n0_ n1_ n2_ n3_ n4_ n5_ n6_ n7_ n8_
      try go_wp2
      have n0_:=a0_ (Kd.R_drew HO5.out)
      have n1_:=a0_ (Kd.R_drew HO10.out)
      have n2_:=a0_ (blk_drew BK1.out)
      have n3_:=a0_ (blk_drew BK2.out)
      have n4_:=a0_ (blk_drew BK7.out)
      have n5_:=a0_ (blk_drew BK12.out)
      have n6_:=a0_ (IsS76.drew HI0.out)
      have n7_:=a0_ (keep_drew HK.out)
      have n8_:=a0_ (below_drew1 HB.out)
      clear HO5
      clear HO10
      clear BK1
      clear BK2
      clear BK7
      clear BK12
      clear HI0
      clear HK
      clear HB
      have HO5:=n0_
      have HO10:=n1_
      have BK1:=n2_
      have BK2:=n3_
      have BK7:=n4_
      have BK12:=n5_
      have HI0:=n6_
      have HK:=n7_
      have HB:=n8_
      clear n0_ n1_ n2_ n3_ n4_ n5_ n6_ n7_ n8_
      refine start_ (n:=4) (S:=fun w'=>w'.cell? ⟨gb7,0,none⟩ = some (.slice Ao50 t3.length co50) ∧ w'.cell? ⟨gb12,0,none⟩ = some (.slice (some ⟨go45,0,none⟩) t8.length co57)) (ds:=[]) #[false,false,false,false] (by kernel_rfl) rfl rfl ⟨(blk_cell BK7.out 0).trans rfl,(blk_cell BK12.out 0).trans rfl⟩ (fun hHeld=>?_)
      generalize w68.drew = w69 at HO5 HO10 BK1 BK2 BK7 BK12 HI0 HK HB hHeld ⊢
      refine take_ (i:=0) (N:=some 65) (v:=?_) (a':=?_) #[true,false,false,false] rfl rfl (by kernel_rfl) (fun _ _ _ h=>h) (Or.inl ⟨by rfl,?_⟩) hHeld ?_ ?_
      rotate_left
      ·rintro w' ⟨s0,s1⟩
       go_simp
       with_reducible rfl
      rotate_left
      ·simp only [Act.put,s1_,s2_,s3_,i64_w,i32_w]
       rfl
      refine take_ (i:=1) (N:=some 66) (v:=?_) (a':=?_) #[true,true,false,false] rfl rfl (by kernel_rfl) (fun _ _ _ h=>h) (Or.inl ⟨by rfl,?_⟩) hHeld ?_ ?_
      rotate_left
      ·rintro w' ⟨s0,s1⟩
       go_simp
       with_reducible rfl
      rotate_left
      ·simp only [Act.put,s1_,s2_,s3_,i64_w,i32_w]
       rfl
      refine one_ (i:=2) (N:=none) #[true,true,true,false] rfl rfl (by kernel_rfl) (by decide) (fun K hK=>?_)
      have hs70 : w69.cell? ⟨gb1,0,none⟩ = some (.slice none 0 0):=(blk_cell BK1.out 0).trans rfl
      have hfs70:=blk_frozen BK1.out 0
      have hns70_1:=NB2_1.out
      have hns70_2:=NB7_1.out
      have hns70_3:=NB12_1.out
      have hms70_1:=NB1_2.out
      have hms70_2:=NB1_7.out
      have hms70_3:=NB1_12.out
      refine skip_ (w1:=?_) (by rfl) rfl ?_ ?_
      rotate_left
      ·go_simp
       rfl
      refine hK.out _ _ ⟨((cell_far (p:=⟨gb1,_,none⟩) NB7_1.out _).trans (hHeld.1)),((cell_far (p:=⟨gb1,_,none⟩) NB12_1.out _).trans (hHeld.2))⟩ (fun hHeld=>?_)
      clear hK K
      refine one_ (i:=3) (N:=none) #[true,true,true,true] rfl rfl (by kernel_rfl) (by decide) (fun K hK=>?_)
      have hs71 : w69.cell? ⟨gb2,0,none⟩ = some (.slice none 0 0):=(blk_cell BK2.out 0).trans rfl
      have hfs71:=blk_frozen BK2.out 0
      have hns71_0:=NB1_2.out
      have hns71_2:=NB7_2.out
      have hns71_3:=NB12_2.out
      have hms71_0:=NB2_1.out
      have hms71_2:=NB2_7.out
      have hms71_3:=NB2_12.out
      refine skip_ (w1:=?_) (by rfl) rfl ?_ ?_
      rotate_left
      ·go_simp
       rfl
      refine hK.out _ _ ⟨((cell_far (p:=⟨gb2,_,none⟩) NB7_2.out _).trans (hHeld.1)),((cell_far (p:=⟨gb2,_,none⟩) NB12_2.out _).trans (hHeld.2))⟩ (fun hHeld=>?_)
      clear hK K
      refine done_ (by kernel_rfl) ?_
      try go_wp2
      refine bodyPost_ret (results_cc rfl _ _ gb1 gb2 25 28 #[.slice Ao50 t3.length co50] #[.slice (some ⟨go45,0,none⟩) t8.length co57] (0,0) (0,0) _ _ rfl (by (with_reducible repeat (first | refine blk_drewN ?_ _ | refine blk_drew ?_ | refine blk_alloc ?_ _));refine blk_far ?_ NB1_2.out _;(with_reducible repeat (first | refine blk_drewN ?_ _ | refine blk_drew ?_ | refine blk_alloc ?_ _));refine blk_put (cs:=#[.slice none 0 0]) ?_ 0 _ rfl;(with_reducible repeat (first | refine blk_drewN ?_ _ | refine blk_drew ?_ | refine blk_alloc ?_ _));exact BK1.out) Try.underlying25 rfl (by kernel_rfl) rfl (by (with_reducible repeat (first | refine blk_drewN ?_ _ | refine blk_drew ?_ | refine blk_alloc ?_ _));refine blk_put (cs:=#[.slice none 0 0]) ?_ 0 _ rfl;(with_reducible repeat (first | refine blk_drewN ?_ _ | refine blk_drew ?_ | refine blk_alloc ?_ _));refine blk_far ?_ NB2_1.out _;(with_reducible repeat (first | refine blk_drewN ?_ _ | refine blk_drew ?_ | refine blk_alloc ?_ _));exact BK2.out) Try.underlying28 rfl (by kernel_rfl)) rfl ?_
      exact ⟨_,_,by first | rfl | (simp [errW_none,errW_some] <;> rfl) | (simp [*,errW_none,errW_some] <;> rfl),by (with_reducible repeat (first | apply Kd.R_alloc | apply Kd.R_drewN | apply Kd.R_drew));exact Kd.R_mono (Kd.R_far (p:=⟨gb2,0,none⟩) (Kd.R_far (p:=⟨gb1,0,none⟩) (Kd.R_types (Kd.R_types HO5.out BK1.out (by decide)) BK2.out (by decide)) (fun _ hk=>hk.1.2) (.slice Ao50 t3.length co50)) (fun _ hk=>hk.2) (.slice (some ⟨go45,0,none⟩) t8.length co57)) (fun _ hk=>trivial),by (with_reducible repeat (first | apply Kd.R_alloc | apply Kd.R_drewN | apply Kd.R_drew));exact Kd.R_mono (Kd.R_far (p:=⟨gb2,0,none⟩) (Kd.R_far (p:=⟨gb1,0,none⟩) (Kd.R_types (Kd.R_types HO10.out BK1.out (by decide)) BK2.out (by decide)) (fun _ hk=>hk.1.2) (.slice Ao50 t3.length co50)) (fun _ hk=>hk.2) (.slice (some ⟨go45,0,none⟩) t8.length co57)) (fun _ hk=>trivial),is0_,hbi0_,hk_⟩
     ·rw [if_neg c44] at H
      exact absurd H (by simp)
    ·rw [if_neg c43] at H
     exact absurd H (by simp)
   ·rw [if_neg c41] at H
    have c41b0 : (t15 == 1) = false:=beq_eq_false_iff_ne.mpr c41
    have c41b1 : (t15 != 1) = true:=bne_iff_ne.mpr c41
    by_cases c72 : t15 = 2
    ·rw [if_pos c72] at H
     have c72b0 : (t15 == 2) = true:=beq_iff_eq.mpr c72
     have c72b1 : (t15 != 2) = false:=bne_eq_false_iff_eq.mpr c72
     clear c72
     obtain ⟨y26,hy26⟩ : ∃ y_ : List Int,y_ = (([(-1),100] : List Int)):=⟨_,rfl⟩
     replace H : ((spec_reader_one.f k s0_0 t16 y26).bind fun bt29=>(if 0 ≤ t13 then (if t13 < (t8.length : Int) then (some (t3,(t8.set (t13 : Int).toNat (⟨(rd_T43 t8 t13).f0,bt29.1,(rd_T43 t8 t13).f2,(rd_T43 t8 t13).f3,(rd_T43 t8 t13).f4⟩ : S43)),bt29.2)) else (none)) else (none))) = some (r1,r2,r3):=by first | (rw [hy26];with_reducible exact H) | (have H2_:=(Option.bind_some _ _).symm.trans H;rw [hy26];with_reducible exact H2_) | (have H2_:=(Option.bind_some _ _).symm.trans H;with_reducible exact H2_) | with_reducible exact H | (rw [hy26];exact H) | exact H
     have Ny26:=a0_ hy26
     clear hy26
     replace H:=Option.bind_eq_some_iff.mp H
     obtain ⟨⟨t29,t30⟩,A730,H⟩:=H
     try dsimp only at H
     have A73:=a0_ A730
     clear A730
     by_cases c74 : 0 ≤ t13
     ·rw [if_pos c74] at H
      have c74b0 : decide (0 ≤ t13) = true:=decide_eq_true c74
      clear c74
      by_cases c75 : t13 < (t8.length : Int)
      ·rw [if_pos c75] at H
       have c75b0 : decide (t13 < (t8.length : Int)) = true:=decide_eq_true c75
       clear c75
       obtain ⟨y31,hy31⟩ : ∃ y_ : List (S43),y_ = (t8.set (t13 : Int).toNat (⟨(rd_T43 t8 t13).f0,t29,(rd_T43 t8 t13).f2,(rd_T43 t8 t13).f3,(rd_T43 t8 t13).f4⟩ : S43)):=⟨_,rfl⟩
       replace H : (some (t3,y31,t30)) = some (r1,r2,r3):=by first | (rw [hy31];with_reducible exact H) | (have H2_:=(Option.bind_some _ _).symm.trans H;rw [hy31];with_reducible exact H2_) | (have H2_:=(Option.bind_some _ _).symm.trans H;with_reducible exact H2_) | with_reducible exact H | (rw [hy31];exact H) | exact H
       have Ny31:=a0_ hy31
       clear hy31
       simp only [Option.some.injEq,Prod.mk.injEq] at H
       obtain ⟨rfl,rfl,rfl⟩:=H
       go_enter Try.func40,Try.ntmps40
       try go_wp2_with (first | ((with_reducible refine gate_dst (N:=2) rfl ?_);refine box_event ?hg (N:=2) ?hd (cs:=#[.slice none 0 0]) (t:=25) ?hr ?_;(case hd=>rfl);(case hg=>rfl);(case hr=>first | (go_simp;done) | (go_simp;rfl));intro gb1 hg w77 hbox hb;have n0_:=a0_ (IsS76.below is0_ hb);have n1_:=a0_ (KeepBut.trans (w:=w) hk_ (KeepBut.of_below hb g none) (.inl rfl));have n2_:=a0_ (below_step hbi0_ hb);have n3_:=a0_ (hbox);have n4_:=a0_ ((by rw [hg];exact (keep_size (w:=w) (g:=g) (row:=none) hk_) : w.heap.size ≤ gb1));have n5_:=a0_ ((Nat.le_trans HW0.out (by rw [hg];exact (keep_size (w:=w) (g:=g) (row:=none) hk_) : w.heap.size ≤ gb1) : w0.heap.size ≤ gb1));have n6_:=a0_ ((by rw [hg];exact Nat.ne_of_lt (IsS76.lt (is0_ : IsS76 w0 _ g s0_0 s0_1)) : g ≠ gb1));have n7_:=a0_ ((by rw [hg];exact Nat.ne_of_gt (IsS76.lt (is0_ : IsS76 w0 _ g s0_0 s0_1)) : gb1 ≠ g));clear HI0 HK HB;have HI0:=n0_;have HK:=n1_;have HB:=n2_;have BK1:=n3_;have GW1:=n4_;have GE1:=n5_;have NB0_1:=n6_;have NB1_0:=n7_;clear n0_ n1_ n2_ n3_ n4_ n5_ n6_ n7_;clear hb hbox hg) | ((with_reducible refine gate_dst (N:=3) rfl ?_);refine box_event ?hg (N:=3) ?hd (cs:=#[.slice none 0 0]) (t:=28) ?hr ?_;(case hd=>rfl);(case hg=>rfl);(case hr=>first | (go_simp;done) | (go_simp;rfl));intro gb2 hg w78 hbox hb;have n0_:=a0_ (IsS76.below is0_ hb);have n1_:=kb_ BK1 hb;have n2_:=a0_ (KeepBut.trans (w:=w) hk_ (KeepBut.of_below hb g none) (.inl rfl));have n3_:=a0_ (below_step hbi0_ hb);have n4_:=a0_ (hbox);have n5_:=a0_ ((by rw [hg];exact (keep_size (w:=w) (g:=g) (row:=none) hk_) : w.heap.size ≤ gb2));have n6_:=a0_ ((Nat.le_trans HW0.out (by rw [hg];exact (keep_size (w:=w) (g:=g) (row:=none) hk_) : w.heap.size ≤ gb2) : w0.heap.size ≤ gb2));have n7_:=a0_ ((by rw [hg];exact Nat.ne_of_lt (blk_lt (bb_ BK1.out)) : gb1 ≠ gb2));have n8_:=a0_ ((by rw [hg];exact Nat.ne_of_gt (blk_lt (bb_ BK1.out)) : gb2 ≠ gb1));have n9_:=a0_ ((by rw [hg];exact Nat.ne_of_lt (IsS76.lt (is0_ : IsS76 w0 _ g s0_0 s0_1)) : g ≠ gb2));have n10_:=a0_ ((by rw [hg];exact Nat.ne_of_gt (IsS76.lt (is0_ : IsS76 w0 _ g s0_0 s0_1)) : gb2 ≠ g));clear HI0 BK1;clear HK HB;have HI0:=n0_;have BK1:=n1_;have HK:=n2_;have HB:=n3_;have BK2:=n4_;have GW2:=n5_;have GE2:=n6_;have NB1_2:=n7_;have NB2_1:=n8_;have NB0_2:=n9_;have NB2_0:=n10_;clear n0_ n1_ n2_ n3_ n4_ n5_ n6_ n7_ n8_ n9_ n10_;clear hb hbox hg) | ((with_reducible refine gate_callee (f:=66) rfl ?_);refine goesL_ (some 8) rfl rfl Try.func66 (by kernel_rfl) rfl #[.pointer (some ⟨g,0,none⟩)] rfl lm_ ?_;(with_reducible refine (spec_someTree.calls k g s0_0 s0_1 t3 t6 w0 _ ?side1 ?side2 A2.out).mono ?_);(case side1=>exact is0_);(case side2=>exact hbi0_);rintro e w79 ⟨v4,rfl,ho0,hi,hb,hk⟩;refine ⟨_,rfl,?_⟩;replace BK1:=kk_ hk BK1 NB1_0;replace BK2:=kk_ hk BK2 NB2_0;have HO5:=a0_ (Kd.R_lower ho0 (keep_size (w:=w) (g:=g) (row:=none) hk_));replace HK:=a0_ (KeepBut.trans (w:=w) hk_ hk (.inl rfl));replace HI0:=a0_ (hi);replace HB:=a0_ (hb);(try clear hb);(try clear ho0)) | ((with_reducible refine gate_dst (N:=4) rfl ?_);refine box_event ?hg (N:=4) ?hd (cs:=#[.slice none 0 0]) (t:=25) ?hr ?_;(case hd=>rfl);(case hg=>rfl);(case hr=>first | (go_simp;done) | (go_simp;rfl));intro gb7 hg w80 hbox hb;have n0_:=rb_ HO5 hb;have n1_:=a0_ (IsS76.below is0_ hb);have n2_:=kb_ BK1 hb;have n3_:=kb_ BK2 hb;have n4_:=a0_ (KeepBut.trans (w:=w) hk_ (KeepBut.of_below hb g none) (.inl rfl));have n5_:=a0_ (below_step hbi0_ hb);have n6_:=a0_ (hbox);have n7_:=a0_ ((by rw [hg];exact (keep_size (w:=w) (g:=g) (row:=none) hk_) : w.heap.size ≤ gb7));have n8_:=a0_ ((Nat.le_trans HW0.out (by rw [hg];exact (keep_size (w:=w) (g:=g) (row:=none) hk_) : w.heap.size ≤ gb7) : w0.heap.size ≤ gb7));have n9_:=a0_ ((by rw [hg];exact Nat.ne_of_lt (blk_lt (bb_ BK1.out)) : gb1 ≠ gb7));have n10_:=a0_ ((by rw [hg];exact Nat.ne_of_gt (blk_lt (bb_ BK1.out)) : gb7 ≠ gb1));have n11_:=a0_ ((by rw [hg];exact Nat.ne_of_lt (blk_lt (bb_ BK2.out)) : gb2 ≠ gb7));have n12_:=a0_ ((by rw [hg];exact Nat.ne_of_gt (blk_lt (bb_ BK2.out)) : gb7 ≠ gb2));have n13_:=a0_ ((by rw [hg];exact Nat.ne_of_lt (IsS76.lt (is0_ : IsS76 w0 _ g s0_0 t6)) : g ≠ gb7));have n14_:=a0_ ((by rw [hg];exact Nat.ne_of_gt (IsS76.lt (is0_ : IsS76 w0 _ g s0_0 t6)) : gb7 ≠ g));clear HO5 HI0;clear BK1 BK2;clear HK HB;have HO5:=n0_;have HI0:=n1_;have BK1:=n2_;have BK2:=n3_;have HK:=n4_;have HB:=n5_;have BK7:=n6_;have GW7:=n7_;have GE7:=n8_;have NB1_7:=n9_;have NB7_1:=n10_;have NB2_7:=n11_;have NB7_2:=n12_;have NB0_7:=n13_;have NB7_0:=n14_;clear n0_ n1_ n2_ n3_ n4_ n5_ n6_ n7_ n8_ n9_ n10_ n11_ n12_ n13_ n14_;clear hb hbox hg;obtain ⟨Ao81,co81,eo81⟩:=Kd.R_slice HO5.out;subst eo81;have hnb82:=NB7_1.out;have hnc82:=NB1_7.out;have hnb83:=NB7_2.out;have hnc83:=NB2_7.out;have hnb84:=NB7_0.out;have hnc84:=NB0_7.out;have hcz85_0 : w80.cell? ⟨gb7,0,none⟩ = some (.slice none 0 0):=(blk_cell BK7.out 0).trans rfl;have hfz85_0:=blk_frozen BK7.out 0) | ((with_reducible refine gate_callee (f:=67) rfl ?_);refine goesL_ (some 11) rfl rfl Try.func67 (by kernel_rfl) rfl #[.pointer (some ⟨g,0,none⟩),.agg #[.slice Ao81 t3.length co81]] rfl lm_ ?_;(with_reducible refine (spec_goodHeap.calls k g s0_0 t6 _ _ t3 t8 t11 w0 _ ?side1 ?side2 ?side3 ?side4 A3.out).mono ?_);(case side1=>exact is0_);(case side2=>exact hbi0_);(case side3=>exact Kd.C_foot_own (IsS76.apart (is0_ : IsS76 w0 _ g s0_0 t6) (by (with_reducible repeat (first | apply Kd.R_alloc | apply Kd.R_drewN | apply Kd.R_drew));exact (Kd.R_mono (Kd.R_far (p:=⟨gb7,0,none⟩) (Kd.R_types HO5.out BK7.out (by decide)) (fun _ hk=>hk.2) (.slice Ao81 t3.length co81)) (fun _ h_=>h_.1))) (by decide)) (fun _ h_=>h_.2));(case side4=>exact (Kd.R_reads' HO5.out).2.1);rintro e w86 ⟨v9,rfl,ho0,hi,hb,hk⟩;refine ⟨_,rfl,?_⟩;replace BK1:=kk_ hk BK1 NB1_0;replace BK2:=kk_ hk BK2 NB2_0;replace HO5:=a0_ (Kd.R_mono (Kd.R_keep (IsS76.apart (is0_ : IsS76 w0 _ g s0_0 t6) (by (with_reducible repeat (first | apply Kd.R_alloc | apply Kd.R_drewN | apply Kd.R_drew));exact (Kd.R_mono (Kd.R_far (p:=⟨gb7,0,none⟩) (Kd.R_types HO5.out BK7.out (by decide)) (fun _ hk=>hk.2) (.slice Ao81 t3.length co81)) (fun _ h_=>h_.1))) (by decide)) hk (fun _ h=>h.2)) (fun _ h=>h.1));replace BK7:=a0_ (KeepBut.blk hk (g':=gb7) (o:=.cells #[.slice Ao81 t3.length co81] 25 (0,0)) (by (with_reducible repeat (first | refine blk_drewN ?_ _ | refine blk_drew ?_ | refine blk_alloc ?_ _));refine blk_put (cs:=#[.slice none 0 0]) ?_ 0 _ rfl;(with_reducible repeat (first | refine blk_drewN ?_ _ | refine blk_drew ?_ | refine blk_alloc ?_ _));exact BK7.out) NB7_0.out (by simp));have HO10:=a0_ (Kd.R_lower ho0 (keep_size (w:=w) (g:=g) (row:=none) hk_));replace HK:=a0_ (KeepBut.trans (w:=w) hk_ hk (.inl rfl));replace HI0:=a0_ (hi);replace HB:=a0_ (hb);(try clear hb);(try clear ho0)) | ((with_reducible refine gate_dst (N:=5) rfl ?_);refine box_event ?hg (N:=5) ?hd (cs:=#[.slice none 0 0]) (t:=28) ?hr ?_;(case hd=>rfl);(case hg=>rfl);(case hr=>first | (go_simp;done) | (go_simp;rfl));intro gb12 hg w87 hbox hb;have n0_:=rb_ HO5 hb;have n1_:=rb_ HO10 hb;have n2_:=a0_ (IsS76.below is0_ hb);have n3_:=kb_ BK1 hb;have n4_:=kb_ BK2 hb;have n5_:=kb_ BK7 hb;have n6_:=a0_ (KeepBut.trans (w:=w) hk_ (KeepBut.of_below hb g none) (.inl rfl));have n7_:=a0_ (below_step hbi0_ hb);have n8_:=a0_ (hbox);have n9_:=a0_ ((by rw [hg];exact (keep_size (w:=w) (g:=g) (row:=none) hk_) : w.heap.size ≤ gb12));have n10_:=a0_ ((Nat.le_trans HW0.out (by rw [hg];exact (keep_size (w:=w) (g:=g) (row:=none) hk_) : w.heap.size ≤ gb12) : w0.heap.size ≤ gb12));have n11_:=a0_ ((by rw [hg];exact Nat.ne_of_lt (blk_lt (bb_ BK1.out)) : gb1 ≠ gb12));have n12_:=a0_ ((by rw [hg];exact Nat.ne_of_gt (blk_lt (bb_ BK1.out)) : gb12 ≠ gb1));have n13_:=a0_ ((by rw [hg];exact Nat.ne_of_lt (blk_lt (bb_ BK2.out)) : gb2 ≠ gb12));have n14_:=a0_ ((by rw [hg];exact Nat.ne_of_gt (blk_lt (bb_ BK2.out)) : gb12 ≠ gb2));have n15_:=a0_ ((by rw [hg];exact Nat.ne_of_lt (blk_lt (bb_ BK7.out)) : gb7 ≠ gb12));have n16_:=a0_ ((by rw [hg];exact Nat.ne_of_gt (blk_lt (bb_ BK7.out)) : gb12 ≠ gb7));have n17_:=a0_ ((by rw [hg];exact Nat.ne_of_lt (IsS76.lt (is0_ : IsS76 w0 _ g s0_0 t11)) : g ≠ gb12));have n18_:=a0_ ((by rw [hg];exact Nat.ne_of_gt (IsS76.lt (is0_ : IsS76 w0 _ g s0_0 t11)) : gb12 ≠ g));clear HO5 HO10;clear HI0 BK1;clear BK2 BK7;clear HK HB;have HO5:=n0_;have HO10:=n1_;have HI0:=n2_;have BK1:=n3_;have BK2:=n4_;have BK7:=n5_;have HK:=n6_;have HB:=n7_;have BK12:=n8_;have GW12:=n9_;have GE12:=n10_;have NB1_12:=n11_;have NB12_1:=n12_;have NB2_12:=n13_;have NB12_2:=n14_;have NB7_12:=n15_;have NB12_7:=n16_;have NB0_12:=n17_;have NB12_0:=n18_;clear n0_ n1_ n2_ n3_ n4_ n5_ n6_ n7_ n8_ n9_ n10_ n11_ n12_ n13_ n14_ n15_ n16_ n17_ n18_;clear hb hbox hg;obtain ⟨Ao88,co88,eo88⟩:=Kd.R_slice HO10.out;subst eo88;have hnb89:=NB12_1.out;have hnc89:=NB1_12.out;have hnb90:=NB12_2.out;have hnc90:=NB2_12.out;have hnb91:=NB12_7.out;have hnc91:=NB7_12.out;have hnb92:=NB12_0.out;have hnc92:=NB0_12.out;have hcz93_0 : w87.cell? ⟨gb12,0,none⟩ = some (.slice none 0 0):=(blk_cell BK12.out 0).trans rfl;have hfz93_0:=blk_frozen BK12.out 0) | ((with_reducible refine gate_callee (f:=48) rfl ?_);refine goesL_ (some 20) rfl rfl Try.func48 (by kernel_rfl) rfl #[.pointer (some ⟨g,0,none⟩),.int .i64 (t8.length : Int)] rfl lm_ ?_;(with_reducible refine (spec_reader_pick.calls k g s0_0 t11 (t8.length : Int) t13 t14 w0 _ ?side1 ?side2 A5.out).mono ?_);(case side1=>exact is0_);(case side2=>exact hbi0_);rintro e w94 ⟨rfl,hi,hb,hk⟩;refine ⟨_,rfl,?_⟩;replace BK1:=kk_ hk BK1 NB1_0;replace BK2:=kk_ hk BK2 NB2_0;replace HO5:=a0_ (Kd.R_mono (Kd.R_keep (IsS76.apart (is0_ : IsS76 w0 _ g s0_0 t11) (by (with_reducible repeat (first | apply Kd.R_alloc | apply Kd.R_drewN | apply Kd.R_drew));exact (Kd.R_mono (Kd.R_far (p:=⟨gb12,0,none⟩) (Kd.R_types HO5.out BK12.out (by decide)) (fun _ hk=>hk.2) (.slice Ao88 t8.length co88)) (fun _ h_=>h_.1))) (by decide)) hk (fun _ h=>h.2)) (fun _ h=>h.1));replace BK7:=kk_ hk BK7 NB7_0;replace HO10:=a0_ (Kd.R_mono (Kd.R_keep (IsS76.apart (is0_ : IsS76 w0 _ g s0_0 t11) (by (with_reducible repeat (first | apply Kd.R_alloc | apply Kd.R_drewN | apply Kd.R_drew));exact (Kd.R_mono (Kd.R_far (p:=⟨gb12,0,none⟩) (Kd.R_types HO10.out BK12.out (by decide)) (fun _ hk=>hk.2) (.slice Ao88 t8.length co88)) (fun _ h_=>h_.1))) (by decide)) hk (fun _ h=>h.2)) (fun _ h=>h.1));replace BK12:=a0_ (KeepBut.blk hk (g':=gb12) (o:=.cells #[.slice Ao88 t8.length co88] 28 (0,0)) (by (with_reducible repeat (first | refine blk_drewN ?_ _ | refine blk_drew ?_ | refine blk_alloc ?_ _));refine blk_put (cs:=#[.slice none 0 0]) ?_ 0 _ rfl;(with_reducible repeat (first | refine blk_drewN ?_ _ | refine blk_drew ?_ | refine blk_alloc ?_ _));exact BK12.out) NB12_0.out (by simp));replace HK:=a0_ (KeepBut.trans (w:=w) hk_ hk (.inl rfl));replace HI0:=a0_ (hi);replace HB:=a0_ (hb);(try clear hb);(try clear hb2);(try clear hk);(try clear hi)) | ((with_reducible refine gate_callee (f:=48) rfl ?_);refine goesL_ (some 22) rfl rfl Try.func48 (by kernel_rfl) rfl #[.pointer (some ⟨g,0,none⟩),.int .i64 24] rfl lm_ ?_;(with_reducible refine (spec_reader_pick.calls k g s0_0 t14 24 t15 t16 w0 _ ?side1 ?side2 A6.out).mono ?_);(case side1=>exact is0_);(case side2=>exact hbi0_);rintro e w95 ⟨rfl,hi,hb,hk⟩;refine ⟨_,rfl,?_⟩;replace BK1:=kk_ hk BK1 NB1_0;replace BK2:=kk_ hk BK2 NB2_0;replace HO5:=a0_ (Kd.R_mono (Kd.R_keep (IsS76.apart (is0_ : IsS76 w0 _ g s0_0 t14) (rr_ HO5.out) (by decide)) hk (fun _ h=>h.2)) (fun _ h=>h.1));replace BK7:=kk_ hk BK7 NB7_0;replace HO10:=a0_ (Kd.R_mono (Kd.R_keep (IsS76.apart (is0_ : IsS76 w0 _ g s0_0 t14) (rr_ HO10.out) (by decide)) hk (fun _ h=>h.2)) (fun _ h=>h.1));replace BK12:=kk_ hk BK12 NB12_0;replace HK:=a0_ (KeepBut.trans (w:=w) hk_ hk (.inl rfl));replace HI0:=a0_ (hi);replace HB:=a0_ (hb);(try clear hb);(try clear hb2);(try clear hk);(try clear hi)))
       have n0_:=a0_ (Kd.R_drew HO5.out)
       have n1_:=a0_ (Kd.R_drew HO10.out)
       have n2_:=a0_ (blk_drew BK1.out)
       have n3_:=a0_ (blk_drew BK2.out)
       have n4_:=a0_ (blk_drew BK7.out)
       have n5_:=a0_ (blk_drew BK12.out)
       have n6_:=a0_ (IsS76.drew HI0.out)
       have n7_:=a0_ (keep_drew HK.out)
       have n8_:=a0_ (below_drew1 HB.out)
       clear HO5
       clear HO10
       clear BK1
       clear BK2
       clear BK7
       clear BK12
       clear HI0
       clear HK
       clear HB
       have HO5:=n0_
       have HO10:=n1_
       have BK1:=n2_
       have BK2:=n3_
       have BK7:=n4_
       have BK12:=n5_
       have HI0:=n6_
       have HK:=n7_
       have HB:=n8_
       clear n0_ n1_ n2_ n3_ n4_ n5_ n6_ n7_ n8_
       refine start_ (n:=9) (S:=fun w'=>w'.cell? ⟨gb12,0,none⟩ = some (.slice Ao88 t8.length co88)) (ds:=[8]) #[false,false,false,false,false,false,false,false,false] (by kernel_rfl) rfl rfl ((blk_cell BK12.out 0).trans rfl) (fun hHeld=>?_);refine with_tabW spec_someHeap.tab11 spec_someHeap.bits11 (fun HT_ HW_=>?_)
       generalize w95.drew = w96 at HO5 HO10 BK1 BK2 BK7 BK12 HI0 HK HB hHeld ⊢
       refine pure_ (i:=0) (N:=some 46) (v:=?_) (a':=?_) #[true,false,false,false,false,false,false,false,false] rfl rfl (any_of HT_.out (by kernel_rfl)) (fun _ _ _ h=>h) (Or.inl ⟨by rfl,?_⟩) ?_ ?_
       rotate_left
       ·intro w'
        go_simp
        with_reducible rfl
       rotate_left
       ·simp only [Act.put,s1_,s2_,s3_,i64_w,i32_w]
        rfl
       refine pure_ (i:=2) (N:=some 48) (v:=?_) (a':=?_) #[true,false,true,false,false,false,false,false,false] rfl rfl (any_of HT_.out (by kernel_rfl)) (fun _ _ _ h=>h) (Or.inl ⟨by rfl,?_⟩) ?_ ?_
       rotate_left
       ·intro w'
        go_simp
        with_reducible rfl
       rotate_left
       ·simp only [Act.put,s1_,s2_,s3_,i64_w,i32_w]
        rfl
       refine pure_ (i:=3) (N:=some 49) (v:=?_) (a':=?_) #[true,false,true,true,false,false,false,false,false] rfl rfl (any_of HT_.out (by kernel_rfl)) (fun _ _ _ h=>h) (Or.inl ⟨by rfl,?_⟩) ?_ ?_
       rotate_left
       ·intro w'
        go_simp
        with_reducible rfl
       rotate_left
       ·simp only [Act.put,s1_,s2_,s3_,i64_w,i32_w]
        rfl
       refine take_ (i:=1) (N:=some 47) (v:=?_) (a':=?_) #[true,true,true,true,false,false,false,false,false] rfl rfl (take_ofW HT_.out HW_.out (by kernel_rfl)) (fun _ _ _ h=>h) (Or.inl ⟨by rfl,?_⟩) hHeld ?_ ?_
       rotate_left
       ·intro w' s0
        go_simp
        with_reducible rfl
       rotate_left
       ·simp only [Act.put,s1_,s2_,s3_,i64_w,i32_w]
        rfl
       refine one_ (i:=4) (N:=some 50) #[true,true,true,true,true,false,false,false,false] rfl rfl (one_of HT_.out (by kernel_rfl)) (by decide) (fun K hK=>?_)
       refine Kd.R_lit_step (Kd.int .i64) _ 3 ?hg (N:=50) ?hd (xs:=([(-1),100] : List Int)) (inner:=[.int .i64 (-1),.int .i64 100]) (ok:=fun _=>True) (okp:=fun _=>True) ?hr ?hp (fun _ hk=>hk) trivial (Below.refl _ _) (Nat.le_refl _) (by simp) ?_;(case hd=>rfl);(case hg=>rfl);(case hr=>first | (go_simp;done) | (go_simp;rfl));(case hp=>exact (Reps.one (show Kd.M (Kd.int .i64) _ _ _ (-1) [.int .i64 (-1)] from rfl) (Reps.one (show Kd.M (Kd.int .i64) _ _ _ 100 [.int .i64 100] from rfl) (Reps.none _ _))))
       intro v27 w97 ho98 hb hg_ hnew_
       clear hg_ hnew_
       (first | rw [← Ny26.out] at ho98 | (simp only [Int.reduceToNat] at ho98;rw [← Ny26.out] at ho98))
       have n0_:=rb_ HO5 hb
       have n1_:=rb_ HO10 hb
       have n2_:=a0_ (Kd.R_lower ho98 (keep_size (w:=w) (g:=g) (row:=none) hk_))
       have n3_:=a0_ (IsS76.below is0_ hb)
       have n4_:=kb_ BK1 hb
       have n5_:=kb_ BK2 hb
       have n6_:=kb_ BK7 hb
       have n7_:=kb_ BK12 hb
       have n8_:=a0_ (KeepBut.trans (w:=w) hk_ (KeepBut.of_below hb g none) (.inl rfl))
       have n9_:=a0_ (below_step hbi0_ hb)
       clear HO5
       clear HO10
       clear HI0
       clear BK1
       clear BK2
       clear BK7
       clear BK12
       clear HK
       clear HB
       have HO5:=n0_
       have HO10:=n1_
       have HO28:=n2_
       have HI0:=n3_
       have BK1:=n4_
       have BK2:=n5_
       have BK7:=n6_
       have BK12:=n7_
       have HK:=n8_
       have HB:=n9_
       clear n0_ n1_ n2_ n3_ n4_ n5_ n6_ n7_ n8_ n9_
       clear hb ho98
       obtain ⟨Ao99,co99,eo99⟩:=Kd.R_slice HO28.out
       (first | subst eo99 | (injection eo99 with f1_ f2_ f3_;have f4_:=f1_.symm;have f5_:=f3_.symm;clear f1_ f2_ f3_;subst f4_;subst f5_))
       refine hK.out _ _ ((blk_cell BK12.out 0).trans rfl) (fun hHeld=>?_)
       clear hK K
       refine norm_ (a':=?_) ?_ ?_
       rotate_left
       ·show Act.put _ (some 50) _ = _
        simp only [Act.put,s1_,s2_,s3_,i64_w,i32_w]
        rfl
       refine one_ (i:=5) (N:=some 51) #[true,true,true,true,true,true,false,false,false] rfl rfl (one_of HT_.out (by kernel_rfl)) (by decide) (fun K hK=>?_)
       refine goes_ Try.func42 (by kernel_rfl) rfl #[.pointer (some ⟨g,0,none⟩),.slice Ao99 y26.length co99] (by rfl) rfl rfl lm_ ?_
       with_reducible refine (spec_reader_one.calls k g s0_0 t16 _ _ y26 t29 t30 w0 _ ?side1 ?side2 ?side3 ?side4 ?side5 A73.out).mono ?_
       (case side1=>exact is0_)
       (case side2=>exact hbi0_)
       (case side3=>exact cc_ (Kd.R_reads' HO28.out).2.2)
       (case side4=>exact (Kd.R_reads' HO28.out).2.1)
       (case side5=>exact far_slice (IsS76.own_ne HI0.out HO28.out (by decide)))
       rintro e w100 ⟨rfl,hi,hb,hk⟩
       refine ⟨_,rfl,?_⟩
       have n0_:=kk_ hk BK1 NB1_0
       have n1_:=kk_ hk BK2 NB2_0
       have n2_:=a0_ (Kd.R_mono (Kd.R_keep (IsS76.apart (is0_ : IsS76 w0 _ g s0_0 t16) (rr_ HO5.out) (by decide)) hk (fun _ h=>h.2)) (fun _ h=>h.1))
       have n3_:=kk_ hk BK7 NB7_0
       have n4_:=a0_ (Kd.R_mono (Kd.R_keep (IsS76.apart (is0_ : IsS76 w0 _ g s0_0 t16) (rr_ HO10.out) (by decide)) hk (fun _ h=>h.2)) (fun _ h=>h.1))
       have n5_:=kk_ hk BK12 NB12_0
       have n6_:=a0_ (Kd.R_mono (Kd.R_keep (IsS76.apart (is0_ : IsS76 w0 _ g s0_0 t16) (rr_ HO28.out) (by decide)) hk (fun _ h=>h.2)) (fun _ h=>h.1))
       have n7_:=a0_ (KeepBut.trans (w:=w) hk_ hk (.inl rfl))
       have n8_:=a0_ (hb)
       have n9_:=a0_ (hi)
       clear BK1
       clear BK2
       clear HO5
       clear BK7
       clear HO10
       clear BK12
       clear HO28
       clear HK
       clear HB
       clear HI0
       have BK1:=n0_
       have BK2:=n1_
       have HO5:=n2_
       have BK7:=n3_
       have HO10:=n4_
       have BK12:=n5_
       have HO28:=n6_
       have HK:=n7_
       have HB:=n8_
       have HI0:=n9_
       clear n0_ n1_ n2_ n3_ n4_ n5_ n6_ n7_ n8_ n9_
       (try clear hb)
       (try clear hb2)
       (try clear hk)
       (try clear hi)
       have p76 : 0 ≤ (t13 : Int):=of_decide_eq_true (by first | (with_reducible assumption) | assumption)
       have q76 : (t13 : Int) < ((t8.length : Int) : Int):=of_decide_eq_true (by first | (with_reducible assumption) | assumption)
       obtain ⟨go76,co76,eo76,gb76,gl76,cl76,HG76⟩:=Kd.R_form HO10.out (by omega)
       (first | cases eo76 | (injection eo76 with ea_ en_ ec_;(first | subst ea_ | (injection ea_ with ea_;subst ea_));subst ec_;clear en_))
       have GB76:=a0_ gb76
       have GG76:=a0_ HG76
       clear gb76 gl76 HG76
       obtain ⟨ce76,hcl76,hM76,hcc76,hfr76⟩:=Kd.R_elem HO10.out z43 (t13 : Int) p76 q76
       obtain rfl:=k43_openM hM76
       have hx76_0 : World.cell? _ ⟨go76,(t13 : Int).toNat * 5,none⟩ = some (.int .i64 ((rd_T43 t8 t13).f0)):=hcc76 0 _ rfl
       have hx76_1 : World.cell? _ ⟨go76,(t13 : Int).toNat * 5 + 1,none⟩ = some (.int .i64 ((rd_T43 t8 t13).f1)):=hcc76 1 _ rfl
       have hx76_2 : World.cell? _ ⟨go76,(t13 : Int).toNat * 5 + 2,none⟩ = some (.int .i64 ((rd_T43 t8 t13).f2)):=hcc76 2 _ rfl
       have hx76_3 : World.cell? _ ⟨go76,(t13 : Int).toNat * 5 + 3,none⟩ = some (.int .i64 ((rd_T43 t8 t13).f3)):=hcc76 3 _ rfl
       have hx76_4 : World.cell? _ ⟨go76,(t13 : Int).toNat * 5 + 4,none⟩ = some (.bool ((rd_T43 t8 t13).f4)):=hcc76 4 _ rfl
       have hf76_0 : World.frozen? _ ⟨go76,(t13 : Int).toNat * 5,none⟩ = false:=hfr76 0
       have hf76_1 : World.frozen? _ ⟨go76,(t13 : Int).toNat * 5 + 1,none⟩ = false:=hfr76 1
       have hf76_2 : World.frozen? _ ⟨go76,(t13 : Int).toNat * 5 + 2,none⟩ = false:=hfr76 2
       have hf76_3 : World.frozen? _ ⟨go76,(t13 : Int).toNat * 5 + 3,none⟩ = false:=hfr76 3
       have hf76_4 : World.frozen? _ ⟨go76,(t13 : Int).toNat * 5 + 4,none⟩ = false:=hfr76 4
       clear hcl76 hcc76 hfr76 hM76
       replace p76:=eq_true p76
       replace q76:=eq_true q76
       have HN0_go76:=a0_ (show g ≠ go76 from by have h_:=IsS76.own_ne HI0.out HO10.out (by decide);intro e_;exact h_ (by rw [e_];rfl))
       obtain ⟨ce101,hcl101,hM101,hcc101,hfr101⟩:=Kd.R_elem HO10.out z43 (t13 : Int) (of_decide_eq_true (by first | (with_reducible assumption) | assumption)) (by have h_ : (t13 : Int) < ((t8.length : Int) : Int):=of_decide_eq_true (by first | (with_reducible assumption) | assumption);first | exact h_ | (have e_:=(Kd.R_reads' HO10.out).1;omega) | simpa using h_)
       obtain rfl:=k43_openM hM101
       have HP101:=(Kd.R_seg HO10.out (t13 : Int) (of_decide_eq_true (by first | (with_reducible assumption) | assumption)) (by have h_ : (t13 : Int) < ((t8.length : Int) : Int):=of_decide_eq_true (by first | (with_reducible assumption) | assumption);first | exact h_ | (have e_:=(Kd.R_reads' HO10.out).1;omega) | simpa using h_) (seg:=[.int .i64 t29]) (j:=1) hcl101 hcc101 (show 2 ≤ 5 from by decide) (x':=(⟨(rd_T43 t8 t13).f0,t29,(rd_T43 t8 t13).f2,(rd_T43 t8 t13).f3,(rd_T43 t8 t13).f4⟩ : S43)) (k43_mkM _ _ _ (⟨(rd_T43 t8 t13).f0,t29,(rd_T43 t8 t13).f2,(rd_T43 t8 t13).f3,(rd_T43 t8 t13).f4⟩ : S43) ) (fun _ hk=>hk)).1
       rw [← Ny31.out] at HP101
       have HQ101:=a0_ HP101
       clear hcl101 hcc101 hfr101 hM101 HP101
       refine hK.out _ _ ((blk_cell BK12.out 0).trans rfl) (fun hHeld=>?_)
       clear hK K
       refine norm_ (a':=?_) ?_ ?_
       rotate_left
       ·show Act.put _ (some 51) _ = _
        simp only [Act.put,s1_,s2_,s3_,i64_w,i32_w]
        rfl
       refine pure_ (i:=6) (N:=some 52) (v:=?_) (a':=?_) #[true,true,true,true,true,true,true,false,false] rfl rfl (any_of HT_.out (by kernel_rfl)) (fun _ _ _ h=>h) (Or.inl ⟨by rfl,?_⟩) ?_ ?_
       rotate_left
       ·intro w'
        go_simp
        with_reducible rfl
       rotate_left
       ·simp only [Act.put,s1_,s2_,s3_,i64_w,i32_w]
        rfl
       refine pure_ (i:=7) (N:=some 53) (v:=?_) (a':=?_) #[true,true,true,true,true,true,true,true,false] rfl rfl (any_of HT_.out (by kernel_rfl)) (fun _ _ _ h=>h) (Or.inl ⟨by rfl,?_⟩) ?_ ?_
       rotate_left
       ·intro w'
        go_simp
        with_reducible rfl
       rotate_left
       ·simp only [Act.put,s1_,s2_,s3_,i64_w,i32_w]
        rfl
       refine last_ (i:=8) (N:=none) #[true,true,true,true,true,true,true,true,true] rfl rfl (one_of HT_.out (by kernel_rfl)) (by decide) (fun K hK=>?_)
       refine skip_ (w1:=?_) (by rfl) rfl ?_ ?_
       rotate_left
       ·go_simp
        rfl
       refine hK.out _ _ ?_
       clear hK K
       refine done_ (done_of HT_.out (by kernel_rfl)) ?_
       have n0_ : Aside0 (Kd.R k87 87 (w100.setCell ⟨go76,(t13 : Int).toNat * 5 + 1,none⟩ (.int .i64 t29)) w.heap.size (fun _=>True) (.slice Ao81 t3.length co81) t3):=⟨by (with_reducible repeat (first | apply Kd.R_alloc | apply Kd.R_drewN | apply Kd.R_drew));exact Kd.R_mono (Kd.R_far (p:=⟨go76,(t13 : Int).toNat * 5 + 1,none⟩) (Kd.R_types HO5.out GG76.out (by decide)) (fun _ hk=>hk.2) (.int .i64 t29)) (fun _ hk=>trivial)⟩
       have n1_ : Aside0 (Kd.R k43 43 (w100.setCell ⟨go76,(t13 : Int).toNat * 5 + 1,none⟩ (.int .i64 t29)) w.heap.size (fun _=>True) (.slice (some ⟨go76,0,none⟩) t8.length co88) y31):=⟨by (with_reducible repeat (first | apply Kd.R_alloc | apply Kd.R_drewN | apply Kd.R_drew));exact HQ101.out⟩
       have n2_ : Aside0 (Kd.R (Kd.int .i64) 3 (w100.setCell ⟨go76,(t13 : Int).toNat * 5 + 1,none⟩ (.int .i64 t29)) w.heap.size (fun _=>True) (.slice Ao99 y26.length co99) y26):=⟨by (with_reducible repeat (first | apply Kd.R_alloc | apply Kd.R_drewN | apply Kd.R_drew));exact Kd.R_mono (Kd.R_far (p:=⟨go76,(t13 : Int).toNat * 5 + 1,none⟩) (Kd.R_types HO28.out GG76.out (by decide)) (fun _ hk=>hk.2) (.int .i64 t29)) (fun _ hk=>trivial)⟩
       have n3_ : Aside0 ((w100.setCell ⟨go76,(t13 : Int).toNat * 5 + 1,none⟩ (.int .i64 t29)).heap[gb1]? = some (.cells #[.slice none 0 0] 25 (0,0))):=⟨by (with_reducible repeat (first | refine blk_drewN ?_ _ | refine blk_drew ?_ | refine blk_alloc ?_ _));refine blk_far ?_ (by have h_:=Kd.R_ne HO10.out BK1.out (by decide);intro e_;exact h_ (by rw [e_];rfl)) _;(with_reducible repeat (first | refine blk_drewN ?_ _ | refine blk_drew ?_ | refine blk_alloc ?_ _));exact BK1.out⟩
       have n4_ : Aside0 ((w100.setCell ⟨go76,(t13 : Int).toNat * 5 + 1,none⟩ (.int .i64 t29)).heap[gb2]? = some (.cells #[.slice none 0 0] 28 (0,0))):=⟨by (with_reducible repeat (first | refine blk_drewN ?_ _ | refine blk_drew ?_ | refine blk_alloc ?_ _));refine blk_far ?_ (by have h_:=Kd.R_ne HO10.out BK2.out (by decide);intro e_;exact h_ (by rw [e_];rfl)) _;(with_reducible repeat (first | refine blk_drewN ?_ _ | refine blk_drew ?_ | refine blk_alloc ?_ _));exact BK2.out⟩
       have n5_ : Aside0 ((w100.setCell ⟨go76,(t13 : Int).toNat * 5 + 1,none⟩ (.int .i64 t29)).heap[gb7]? = some (.cells #[.slice Ao81 t3.length co81] 25 (0,0))):=⟨by (with_reducible repeat (first | refine blk_drewN ?_ _ | refine blk_drew ?_ | refine blk_alloc ?_ _));refine blk_far ?_ (by have h_:=Kd.R_ne HO10.out BK7.out (by decide);intro e_;exact h_ (by rw [e_];rfl)) _;(with_reducible repeat (first | refine blk_drewN ?_ _ | refine blk_drew ?_ | refine blk_alloc ?_ _));exact BK7.out⟩
       have n6_ : Aside0 ((w100.setCell ⟨go76,(t13 : Int).toNat * 5 + 1,none⟩ (.int .i64 t29)).heap[gb12]? = some (.cells #[.slice (some ⟨go76,0,none⟩) t8.length co88] 28 (0,0))):=⟨by (with_reducible repeat (first | refine blk_drewN ?_ _ | refine blk_drew ?_ | refine blk_alloc ?_ _));refine blk_far ?_ (by have h_:=Kd.R_ne HO10.out BK12.out (by decide);intro e_;exact h_ (by rw [e_];rfl)) _;(with_reducible repeat (first | refine blk_drewN ?_ _ | refine blk_drew ?_ | refine blk_alloc ?_ _));exact BK12.out⟩
       have n7_ : Aside0 (IsS76 w0 (w100.setCell ⟨go76,(t13 : Int).toNat * 5 + 1,none⟩ (.int .i64 t29)) g s0_0 t30):=⟨is0_⟩
       have n8_ : Aside0 (KeepBut w (w100.setCell ⟨go76,(t13 : Int).toNat * 5 + 1,none⟩ (.int .i64 t29)) g none):=⟨hk_⟩
       have n9_ : Aside0 (Below w0.heap.size w0 (w100.setCell ⟨go76,(t13 : Int).toNat * 5 + 1,none⟩ (.int .i64 t29))):=⟨by repeat (first | (with_reducible first | exact HB.out | apply below_alloc | apply pw_below_drewN | apply below_drew1 | refine below_set ?_ (Nat.le_trans HL.out GB76.out) | refine below_set ?_ (IsS76.ge HI0.out) | refine below_set ?_ GE1.out | refine below_set ?_ GE2.out | refine below_set ?_ GE7.out | refine below_set ?_ GE12.out) | exact HB.out)⟩
       (try clear HO5)
       (try clear HO10)
       (try clear HO28)
       (try clear BK1)
       (try clear BK2)
       (try clear BK7)
       (try clear BK12)
       (try clear HI0)
       (try clear HK)
       (try clear HB)
       generalize (w100.setCell ⟨go76,(t13 : Int).toNat * 5 + 1,none⟩ (.int .i64 t29)) = w102 at n0_ n1_ n2_ n3_ n4_ n5_ n6_ n7_ n8_ n9_ ⊢
       have HO5:=n0_
       have HO10:=n1_
       have HO28:=n2_
       have BK1:=n3_
       have BK2:=n4_
       have BK7:=n5_
       have BK12:=n6_
       have HI0:=n7_
       have HK:=n8_
       have HB:=n9_
       clear n0_ n1_ n2_ n3_ n4_ n5_ n6_ n7_ n8_ n9_
       try go_wp2
       have n0_:=a0_ (Kd.R_drew HO5.out)
       have n1_:=a0_ (Kd.R_drew HO10.out)
       have n2_:=a0_ (Kd.R_drew HO28.out)
       have n3_:=a0_ (blk_drew BK1.out)
       have n4_:=a0_ (blk_drew BK2.out)
       have n5_:=a0_ (blk_drew BK7.out)
       have n6_:=a0_ (blk_drew BK12.out)
       have n7_:=a0_ (IsS76.drew HI0.out)
       have n8_:=a0_ (keep_drew HK.out)
       have n9_:=a0_ (below_drew1 HB.out)
       clear HO5
       clear HO10
       clear HO28
       clear BK1
       clear BK2
       clear BK7
       clear BK12
       clear HI0
       clear HK
       clear HB
       have HO5:=n0_
       have HO10:=n1_
       have HO28:=n2_
       have BK1:=n3_
       have BK2:=n4_
       have BK7:=n5_
       have BK12:=n6_
       have HI0:=n7_
       have HK:=n8_
       have HB:=n9_
       clear n0_ n1_ n2_ n3_ n4_ n5_ n6_ n7_ n8_ n9_
       refine start_ (n:=4) (S:=fun w'=>w'.cell? ⟨gb7,0,none⟩ = some (.slice Ao81 t3.length co81) ∧ w'.cell? ⟨gb12,0,none⟩ = some (.slice (some ⟨go76,0,none⟩) t8.length co88)) (ds:=[]) #[false,false,false,false] (by kernel_rfl) rfl rfl ⟨(blk_cell BK7.out 0).trans rfl,(blk_cell BK12.out 0).trans rfl⟩ (fun hHeld=>?_)
       generalize w102.drew = w103 at HO5 HO10 HO28 BK1 BK2 BK7 BK12 HI0 HK HB hHeld ⊢
       refine take_ (i:=0) (N:=some 65) (v:=?_) (a':=?_) #[true,false,false,false] rfl rfl (by kernel_rfl) (fun _ _ _ h=>h) (Or.inl ⟨by rfl,?_⟩) hHeld ?_ ?_
       rotate_left
       ·rintro w' ⟨s0,s1⟩
        go_simp
        with_reducible rfl
       rotate_left
       ·simp only [Act.put,s1_,s2_,s3_,i64_w,i32_w]
        rfl
       refine take_ (i:=1) (N:=some 66) (v:=?_) (a':=?_) #[true,true,false,false] rfl rfl (by kernel_rfl) (fun _ _ _ h=>h) (Or.inl ⟨by rfl,?_⟩) hHeld ?_ ?_
       rotate_left
       ·rintro w' ⟨s0,s1⟩
        go_simp
        with_reducible rfl
       rotate_left
       ·simp only [Act.put,s1_,s2_,s3_,i64_w,i32_w]
        rfl
       refine one_ (i:=2) (N:=none) #[true,true,true,false] rfl rfl (by kernel_rfl) (by decide) (fun K hK=>?_)
       have hs104 : w103.cell? ⟨gb1,0,none⟩ = some (.slice none 0 0):=(blk_cell BK1.out 0).trans rfl
       have hfs104:=blk_frozen BK1.out 0
       have hns104_1:=NB2_1.out
       have hns104_2:=NB7_1.out
       have hns104_3:=NB12_1.out
       have hms104_1:=NB1_2.out
       have hms104_2:=NB1_7.out
       have hms104_3:=NB1_12.out
       refine skip_ (w1:=?_) (by rfl) rfl ?_ ?_
       rotate_left
       ·go_simp
        rfl
       refine hK.out _ _ ⟨((cell_far (p:=⟨gb1,_,none⟩) NB7_1.out _).trans (hHeld.1)),((cell_far (p:=⟨gb1,_,none⟩) NB12_1.out _).trans (hHeld.2))⟩ (fun hHeld=>?_)
       clear hK K
       refine one_ (i:=3) (N:=none) #[true,true,true,true] rfl rfl (by kernel_rfl) (by decide) (fun K hK=>?_)
       have hs105 : w103.cell? ⟨gb2,0,none⟩ = some (.slice none 0 0):=(blk_cell BK2.out 0).trans rfl
       have hfs105:=blk_frozen BK2.out 0
       have hns105_0:=NB1_2.out
       have hns105_2:=NB7_2.out
       have hns105_3:=NB12_2.out
       have hms105_0:=NB2_1.out
       have hms105_2:=NB2_7.out
       have hms105_3:=NB2_12.out
       refine skip_ (w1:=?_) (by rfl) rfl ?_ ?_
       rotate_left
       ·go_simp
        rfl
       refine hK.out _ _ ⟨((cell_far (p:=⟨gb2,_,none⟩) NB7_2.out _).trans (hHeld.1)),((cell_far (p:=⟨gb2,_,none⟩) NB12_2.out _).trans (hHeld.2))⟩ (fun hHeld=>?_)
       clear hK K
       refine done_ (by kernel_rfl) ?_
       try go_wp2
       refine bodyPost_ret (results_cc rfl _ _ gb1 gb2 25 28 #[.slice Ao81 t3.length co81] #[.slice (some ⟨go76,0,none⟩) t8.length co88] (0,0) (0,0) _ _ rfl (by (with_reducible repeat (first | refine blk_drewN ?_ _ | refine blk_drew ?_ | refine blk_alloc ?_ _));refine blk_far ?_ NB1_2.out _;(with_reducible repeat (first | refine blk_drewN ?_ _ | refine blk_drew ?_ | refine blk_alloc ?_ _));refine blk_put (cs:=#[.slice none 0 0]) ?_ 0 _ rfl;(with_reducible repeat (first | refine blk_drewN ?_ _ | refine blk_drew ?_ | refine blk_alloc ?_ _));exact BK1.out) Try.underlying25 rfl (by kernel_rfl) rfl (by (with_reducible repeat (first | refine blk_drewN ?_ _ | refine blk_drew ?_ | refine blk_alloc ?_ _));refine blk_put (cs:=#[.slice none 0 0]) ?_ 0 _ rfl;(with_reducible repeat (first | refine blk_drewN ?_ _ | refine blk_drew ?_ | refine blk_alloc ?_ _));refine blk_far ?_ NB2_1.out _;(with_reducible repeat (first | refine blk_drewN ?_ _ | refine blk_drew ?_ | refine blk_alloc ?_ _));exact BK2.out) Try.underlying28 rfl (by kernel_rfl)) rfl ?_
       exact ⟨_,_,by first | rfl | (simp [errW_none,errW_some] <;> rfl) | (simp [*,errW_none,errW_some] <;> rfl),by (with_reducible repeat (first | apply Kd.R_alloc | apply Kd.R_drewN | apply Kd.R_drew));exact Kd.R_mono (Kd.R_far (p:=⟨gb2,0,none⟩) (Kd.R_far (p:=⟨gb1,0,none⟩) (Kd.R_types (Kd.R_types HO5.out BK1.out (by decide)) BK2.out (by decide)) (fun _ hk=>hk.1.2) (.slice Ao81 t3.length co81)) (fun _ hk=>hk.2) (.slice (some ⟨go76,0,none⟩) t8.length co88)) (fun _ hk=>trivial),by (with_reducible repeat (first | apply Kd.R_alloc | apply Kd.R_drewN | apply Kd.R_drew));exact Kd.R_mono (Kd.R_far (p:=⟨gb2,0,none⟩) (Kd.R_far (p:=⟨gb1,0,none⟩) (Kd.R_types (Kd.R_types HO10.out BK1.out (by decide)) BK2.out (by decide)) (fun _ hk=>hk.1.2) (.slice Ao81 t3.length co81)) (fun _ hk=>hk.2) (.slice (some ⟨go76,0,none⟩) t8.length co88)) (fun _ hk=>trivial),is0_,hbi0_,hk_⟩
      ·rw [if_neg c75] at H
       exact absurd H (by simp)
     ·rw [if_neg c74] at H
      exact absurd H (by simp)
    ·rw [if_neg c72] at H
     have c72b0 : (t15 == 2) = false:=beq_eq_false_iff_ne.mpr c72
     have c72b1 : (t15 != 2) = true:=bne_iff_ne.mpr c72
     by_cases c106 : t15 = 3
     ·rw [if_pos c106] at H
      have c106b0 : (t15 == 3) = true:=beq_iff_eq.mpr c106
      have c106b1 : (t15 != 3) = false:=bne_eq_false_iff_eq.mpr c106
      clear c106
      obtain ⟨y32,hy32⟩ : ∃ y_ : List Int,y_ = (([t13,24,0] : List Int)):=⟨_,rfl⟩
      replace H : ((spec_reader_one.f k s0_0 t16 y32).bind fun bt35=>(if 0 ≤ t13 then (if t13 < (t8.length : Int) then (some (t3,(t8.set (t13 : Int).toNat (⟨(rd_T43 t8 t13).f0,(rd_T43 t8 t13).f1,bt35.1,(rd_T43 t8 t13).f3,(rd_T43 t8 t13).f4⟩ : S43)),bt35.2)) else (none)) else (none))) = some (r1,r2,r3):=by first | (rw [hy32];with_reducible exact H) | (have H2_:=(Option.bind_some _ _).symm.trans H;rw [hy32];with_reducible exact H2_) | (have H2_:=(Option.bind_some _ _).symm.trans H;with_reducible exact H2_) | with_reducible exact H | (rw [hy32];exact H) | exact H
      have Ny32:=a0_ hy32
      clear hy32
      replace H:=Option.bind_eq_some_iff.mp H
      obtain ⟨⟨t35,t36⟩,A1070,H⟩:=H
      try dsimp only at H
      have A107:=a0_ A1070
      clear A1070
      by_cases c108 : 0 ≤ t13
      ·rw [if_pos c108] at H
       have c108b0 : decide (0 ≤ t13) = true:=decide_eq_true c108
       clear c108
       by_cases c109 : t13 < (t8.length : Int)
       ·rw [if_pos c109] at H
        have c109b0 : decide (t13 < (t8.length : Int)) = true:=decide_eq_true c109
        clear c109
        obtain ⟨y37,hy37⟩ : ∃ y_ : List (S43),y_ = (t8.set (t13 : Int).toNat (⟨(rd_T43 t8 t13).f0,(rd_T43 t8 t13).f1,t35,(rd_T43 t8 t13).f3,(rd_T43 t8 t13).f4⟩ : S43)):=⟨_,rfl⟩
        replace H : (some (t3,y37,t36)) = some (r1,r2,r3):=by first | (rw [hy37];with_reducible exact H) | (have H2_:=(Option.bind_some _ _).symm.trans H;rw [hy37];with_reducible exact H2_) | (have H2_:=(Option.bind_some _ _).symm.trans H;with_reducible exact H2_) | with_reducible exact H | (rw [hy37];exact H) | exact H
        have Ny37:=a0_ hy37
        clear hy37
        simp only [Option.some.injEq,Prod.mk.injEq] at H
        obtain ⟨rfl,rfl,rfl⟩:=H
        go_enter Try.func40,Try.ntmps40
        try go_wp2_with (first | ((with_reducible refine gate_dst (N:=2) rfl ?_);refine box_event ?hg (N:=2) ?hd (cs:=#[.slice none 0 0]) (t:=25) ?hr ?_;(case hd=>rfl);(case hg=>rfl);(case hr=>first | (go_simp;done) | (go_simp;rfl));intro gb1 hg w111 hbox hb;have n0_:=a0_ (IsS76.below is0_ hb);have n1_:=a0_ (KeepBut.trans (w:=w) hk_ (KeepBut.of_below hb g none) (.inl rfl));have n2_:=a0_ (below_step hbi0_ hb);have n3_:=a0_ (hbox);have n4_:=a0_ ((by rw [hg];exact (keep_size (w:=w) (g:=g) (row:=none) hk_) : w.heap.size ≤ gb1));have n5_:=a0_ ((Nat.le_trans HW0.out (by rw [hg];exact (keep_size (w:=w) (g:=g) (row:=none) hk_) : w.heap.size ≤ gb1) : w0.heap.size ≤ gb1));have n6_:=a0_ ((by rw [hg];exact Nat.ne_of_lt (IsS76.lt (is0_ : IsS76 w0 _ g s0_0 s0_1)) : g ≠ gb1));have n7_:=a0_ ((by rw [hg];exact Nat.ne_of_gt (IsS76.lt (is0_ : IsS76 w0 _ g s0_0 s0_1)) : gb1 ≠ g));clear HI0 HK HB;have HI0:=n0_;have HK:=n1_;have HB:=n2_;have BK1:=n3_;have GW1:=n4_;have GE1:=n5_;have NB0_1:=n6_;have NB1_0:=n7_;clear n0_ n1_ n2_ n3_ n4_ n5_ n6_ n7_;clear hb hbox hg) | ((with_reducible refine gate_dst (N:=3) rfl ?_);refine box_event ?hg (N:=3) ?hd (cs:=#[.slice none 0 0]) (t:=28) ?hr ?_;(case hd=>rfl);(case hg=>rfl);(case hr=>first | (go_simp;done) | (go_simp;rfl));intro gb2 hg w112 hbox hb;have n0_:=a0_ (IsS76.below is0_ hb);have n1_:=kb_ BK1 hb;have n2_:=a0_ (KeepBut.trans (w:=w) hk_ (KeepBut.of_below hb g none) (.inl rfl));have n3_:=a0_ (below_step hbi0_ hb);have n4_:=a0_ (hbox);have n5_:=a0_ ((by rw [hg];exact (keep_size (w:=w) (g:=g) (row:=none) hk_) : w.heap.size ≤ gb2));have n6_:=a0_ ((Nat.le_trans HW0.out (by rw [hg];exact (keep_size (w:=w) (g:=g) (row:=none) hk_) : w.heap.size ≤ gb2) : w0.heap.size ≤ gb2));have n7_:=a0_ ((by rw [hg];exact Nat.ne_of_lt (blk_lt (bb_ BK1.out)) : gb1 ≠ gb2));have n8_:=a0_ ((by rw [hg];exact Nat.ne_of_gt (blk_lt (bb_ BK1.out)) : gb2 ≠ gb1));have n9_:=a0_ ((by rw [hg];exact Nat.ne_of_lt (IsS76.lt (is0_ : IsS76 w0 _ g s0_0 s0_1)) : g ≠ gb2));have n10_:=a0_ ((by rw [hg];exact Nat.ne_of_gt (IsS76.lt (is0_ : IsS76 w0 _ g s0_0 s0_1)) : gb2 ≠ g));clear HI0 BK1;clear HK HB;have HI0:=n0_;have BK1:=n1_;have HK:=n2_;have HB:=n3_;have BK2:=n4_;have GW2:=n5_;have GE2:=n6_;have NB1_2:=n7_;have NB2_1:=n8_;have NB0_2:=n9_;have NB2_0:=n10_;clear n0_ n1_ n2_ n3_ n4_ n5_ n6_ n7_ n8_ n9_ n10_;clear hb hbox hg) | ((with_reducible refine gate_callee (f:=66) rfl ?_);refine goesL_ (some 8) rfl rfl Try.func66 (by kernel_rfl) rfl #[.pointer (some ⟨g,0,none⟩)] rfl lm_ ?_;(with_reducible refine (spec_someTree.calls k g s0_0 s0_1 t3 t6 w0 _ ?side1 ?side2 A2.out).mono ?_);(case side1=>exact is0_);(case side2=>exact hbi0_);rintro e w113 ⟨v4,rfl,ho0,hi,hb,hk⟩;refine ⟨_,rfl,?_⟩;replace BK1:=kk_ hk BK1 NB1_0;replace BK2:=kk_ hk BK2 NB2_0;have HO5:=a0_ (Kd.R_lower ho0 (keep_size (w:=w) (g:=g) (row:=none) hk_));replace HK:=a0_ (KeepBut.trans (w:=w) hk_ hk (.inl rfl));replace HI0:=a0_ (hi);replace HB:=a0_ (hb);(try clear hb);(try clear ho0)) | ((with_reducible refine gate_dst (N:=4) rfl ?_);refine box_event ?hg (N:=4) ?hd (cs:=#[.slice none 0 0]) (t:=25) ?hr ?_;(case hd=>rfl);(case hg=>rfl);(case hr=>first | (go_simp;done) | (go_simp;rfl));intro gb7 hg w114 hbox hb;have n0_:=rb_ HO5 hb;have n1_:=a0_ (IsS76.below is0_ hb);have n2_:=kb_ BK1 hb;have n3_:=kb_ BK2 hb;have n4_:=a0_ (KeepBut.trans (w:=w) hk_ (KeepBut.of_below hb g none) (.inl rfl));have n5_:=a0_ (below_step hbi0_ hb);have n6_:=a0_ (hbox);have n7_:=a0_ ((by rw [hg];exact (keep_size (w:=w) (g:=g) (row:=none) hk_) : w.heap.size ≤ gb7));have n8_:=a0_ ((Nat.le_trans HW0.out (by rw [hg];exact (keep_size (w:=w) (g:=g) (row:=none) hk_) : w.heap.size ≤ gb7) : w0.heap.size ≤ gb7));have n9_:=a0_ ((by rw [hg];exact Nat.ne_of_lt (blk_lt (bb_ BK1.out)) : gb1 ≠ gb7));have n10_:=a0_ ((by rw [hg];exact Nat.ne_of_gt (blk_lt (bb_ BK1.out)) : gb7 ≠ gb1));have n11_:=a0_ ((by rw [hg];exact Nat.ne_of_lt (blk_lt (bb_ BK2.out)) : gb2 ≠ gb7));have n12_:=a0_ ((by rw [hg];exact Nat.ne_of_gt (blk_lt (bb_ BK2.out)) : gb7 ≠ gb2));have n13_:=a0_ ((by rw [hg];exact Nat.ne_of_lt (IsS76.lt (is0_ : IsS76 w0 _ g s0_0 t6)) : g ≠ gb7));have n14_:=a0_ ((by rw [hg];exact Nat.ne_of_gt (IsS76.lt (is0_ : IsS76 w0 _ g s0_0 t6)) : gb7 ≠ g));clear HO5 HI0;clear BK1 BK2;clear HK HB;have HO5:=n0_;have HI0:=n1_;have BK1:=n2_;have BK2:=n3_;have HK:=n4_;have HB:=n5_;have BK7:=n6_;have GW7:=n7_;have GE7:=n8_;have NB1_7:=n9_;have NB7_1:=n10_;have NB2_7:=n11_;have NB7_2:=n12_;have NB0_7:=n13_;have NB7_0:=n14_;clear n0_ n1_ n2_ n3_ n4_ n5_ n6_ n7_ n8_ n9_ n10_ n11_ n12_ n13_ n14_;clear hb hbox hg;obtain ⟨Ao115,co115,eo115⟩:=Kd.R_slice HO5.out;subst eo115;have hnb116:=NB7_1.out;have hnc116:=NB1_7.out;have hnb117:=NB7_2.out;have hnc117:=NB2_7.out;have hnb118:=NB7_0.out;have hnc118:=NB0_7.out;have hcz119_0 : w114.cell? ⟨gb7,0,none⟩ = some (.slice none 0 0):=(blk_cell BK7.out 0).trans rfl;have hfz119_0:=blk_frozen BK7.out 0) | ((with_reducible refine gate_callee (f:=67) rfl ?_);refine goesL_ (some 11) rfl rfl Try.func67 (by kernel_rfl) rfl #[.pointer (some ⟨g,0,none⟩),.agg #[.slice Ao115 t3.length co115]] rfl lm_ ?_;(with_reducible refine (spec_goodHeap.calls k g s0_0 t6 _ _ t3 t8 t11 w0 _ ?side1 ?side2 ?side3 ?side4 A3.out).mono ?_);(case side1=>exact is0_);(case side2=>exact hbi0_);(case side3=>exact Kd.C_foot_own (IsS76.apart (is0_ : IsS76 w0 _ g s0_0 t6) (by (with_reducible repeat (first | apply Kd.R_alloc | apply Kd.R_drewN | apply Kd.R_drew));exact (Kd.R_mono (Kd.R_far (p:=⟨gb7,0,none⟩) (Kd.R_types HO5.out BK7.out (by decide)) (fun _ hk=>hk.2) (.slice Ao115 t3.length co115)) (fun _ h_=>h_.1))) (by decide)) (fun _ h_=>h_.2));(case side4=>exact (Kd.R_reads' HO5.out).2.1);rintro e w120 ⟨v9,rfl,ho0,hi,hb,hk⟩;refine ⟨_,rfl,?_⟩;replace BK1:=kk_ hk BK1 NB1_0;replace BK2:=kk_ hk BK2 NB2_0;replace HO5:=a0_ (Kd.R_mono (Kd.R_keep (IsS76.apart (is0_ : IsS76 w0 _ g s0_0 t6) (by (with_reducible repeat (first | apply Kd.R_alloc | apply Kd.R_drewN | apply Kd.R_drew));exact (Kd.R_mono (Kd.R_far (p:=⟨gb7,0,none⟩) (Kd.R_types HO5.out BK7.out (by decide)) (fun _ hk=>hk.2) (.slice Ao115 t3.length co115)) (fun _ h_=>h_.1))) (by decide)) hk (fun _ h=>h.2)) (fun _ h=>h.1));replace BK7:=a0_ (KeepBut.blk hk (g':=gb7) (o:=.cells #[.slice Ao115 t3.length co115] 25 (0,0)) (by (with_reducible repeat (first | refine blk_drewN ?_ _ | refine blk_drew ?_ | refine blk_alloc ?_ _));refine blk_put (cs:=#[.slice none 0 0]) ?_ 0 _ rfl;(with_reducible repeat (first | refine blk_drewN ?_ _ | refine blk_drew ?_ | refine blk_alloc ?_ _));exact BK7.out) NB7_0.out (by simp));have HO10:=a0_ (Kd.R_lower ho0 (keep_size (w:=w) (g:=g) (row:=none) hk_));replace HK:=a0_ (KeepBut.trans (w:=w) hk_ hk (.inl rfl));replace HI0:=a0_ (hi);replace HB:=a0_ (hb);(try clear hb);(try clear ho0)) | ((with_reducible refine gate_dst (N:=5) rfl ?_);refine box_event ?hg (N:=5) ?hd (cs:=#[.slice none 0 0]) (t:=28) ?hr ?_;(case hd=>rfl);(case hg=>rfl);(case hr=>first | (go_simp;done) | (go_simp;rfl));intro gb12 hg w121 hbox hb;have n0_:=rb_ HO5 hb;have n1_:=rb_ HO10 hb;have n2_:=a0_ (IsS76.below is0_ hb);have n3_:=kb_ BK1 hb;have n4_:=kb_ BK2 hb;have n5_:=kb_ BK7 hb;have n6_:=a0_ (KeepBut.trans (w:=w) hk_ (KeepBut.of_below hb g none) (.inl rfl));have n7_:=a0_ (below_step hbi0_ hb);have n8_:=a0_ (hbox);have n9_:=a0_ ((by rw [hg];exact (keep_size (w:=w) (g:=g) (row:=none) hk_) : w.heap.size ≤ gb12));have n10_:=a0_ ((Nat.le_trans HW0.out (by rw [hg];exact (keep_size (w:=w) (g:=g) (row:=none) hk_) : w.heap.size ≤ gb12) : w0.heap.size ≤ gb12));have n11_:=a0_ ((by rw [hg];exact Nat.ne_of_lt (blk_lt (bb_ BK1.out)) : gb1 ≠ gb12));have n12_:=a0_ ((by rw [hg];exact Nat.ne_of_gt (blk_lt (bb_ BK1.out)) : gb12 ≠ gb1));have n13_:=a0_ ((by rw [hg];exact Nat.ne_of_lt (blk_lt (bb_ BK2.out)) : gb2 ≠ gb12));have n14_:=a0_ ((by rw [hg];exact Nat.ne_of_gt (blk_lt (bb_ BK2.out)) : gb12 ≠ gb2));have n15_:=a0_ ((by rw [hg];exact Nat.ne_of_lt (blk_lt (bb_ BK7.out)) : gb7 ≠ gb12));have n16_:=a0_ ((by rw [hg];exact Nat.ne_of_gt (blk_lt (bb_ BK7.out)) : gb12 ≠ gb7));have n17_:=a0_ ((by rw [hg];exact Nat.ne_of_lt (IsS76.lt (is0_ : IsS76 w0 _ g s0_0 t11)) : g ≠ gb12));have n18_:=a0_ ((by rw [hg];exact Nat.ne_of_gt (IsS76.lt (is0_ : IsS76 w0 _ g s0_0 t11)) : gb12 ≠ g));clear HO5 HO10;clear HI0 BK1;clear BK2 BK7;clear HK HB;have HO5:=n0_;have HO10:=n1_;have HI0:=n2_;have BK1:=n3_;have BK2:=n4_;have BK7:=n5_;have HK:=n6_;have HB:=n7_;have BK12:=n8_;have GW12:=n9_;have GE12:=n10_;have NB1_12:=n11_;have NB12_1:=n12_;have NB2_12:=n13_;have NB12_2:=n14_;have NB7_12:=n15_;have NB12_7:=n16_;have NB0_12:=n17_;have NB12_0:=n18_;clear n0_ n1_ n2_ n3_ n4_ n5_ n6_ n7_ n8_ n9_ n10_ n11_ n12_ n13_ n14_ n15_ n16_ n17_ n18_;clear hb hbox hg;obtain ⟨Ao122,co122,eo122⟩:=Kd.R_slice HO10.out;subst eo122;have hnb123:=NB12_1.out;have hnc123:=NB1_12.out;have hnb124:=NB12_2.out;have hnc124:=NB2_12.out;have hnb125:=NB12_7.out;have hnc125:=NB7_12.out;have hnb126:=NB12_0.out;have hnc126:=NB0_12.out;have hcz127_0 : w121.cell? ⟨gb12,0,none⟩ = some (.slice none 0 0):=(blk_cell BK12.out 0).trans rfl;have hfz127_0:=blk_frozen BK12.out 0) | ((with_reducible refine gate_callee (f:=48) rfl ?_);refine goesL_ (some 20) rfl rfl Try.func48 (by kernel_rfl) rfl #[.pointer (some ⟨g,0,none⟩),.int .i64 (t8.length : Int)] rfl lm_ ?_;(with_reducible refine (spec_reader_pick.calls k g s0_0 t11 (t8.length : Int) t13 t14 w0 _ ?side1 ?side2 A5.out).mono ?_);(case side1=>exact is0_);(case side2=>exact hbi0_);rintro e w128 ⟨rfl,hi,hb,hk⟩;refine ⟨_,rfl,?_⟩;replace BK1:=kk_ hk BK1 NB1_0;replace BK2:=kk_ hk BK2 NB2_0;replace HO5:=a0_ (Kd.R_mono (Kd.R_keep (IsS76.apart (is0_ : IsS76 w0 _ g s0_0 t11) (by (with_reducible repeat (first | apply Kd.R_alloc | apply Kd.R_drewN | apply Kd.R_drew));exact (Kd.R_mono (Kd.R_far (p:=⟨gb12,0,none⟩) (Kd.R_types HO5.out BK12.out (by decide)) (fun _ hk=>hk.2) (.slice Ao122 t8.length co122)) (fun _ h_=>h_.1))) (by decide)) hk (fun _ h=>h.2)) (fun _ h=>h.1));replace BK7:=kk_ hk BK7 NB7_0;replace HO10:=a0_ (Kd.R_mono (Kd.R_keep (IsS76.apart (is0_ : IsS76 w0 _ g s0_0 t11) (by (with_reducible repeat (first | apply Kd.R_alloc | apply Kd.R_drewN | apply Kd.R_drew));exact (Kd.R_mono (Kd.R_far (p:=⟨gb12,0,none⟩) (Kd.R_types HO10.out BK12.out (by decide)) (fun _ hk=>hk.2) (.slice Ao122 t8.length co122)) (fun _ h_=>h_.1))) (by decide)) hk (fun _ h=>h.2)) (fun _ h=>h.1));replace BK12:=a0_ (KeepBut.blk hk (g':=gb12) (o:=.cells #[.slice Ao122 t8.length co122] 28 (0,0)) (by (with_reducible repeat (first | refine blk_drewN ?_ _ | refine blk_drew ?_ | refine blk_alloc ?_ _));refine blk_put (cs:=#[.slice none 0 0]) ?_ 0 _ rfl;(with_reducible repeat (first | refine blk_drewN ?_ _ | refine blk_drew ?_ | refine blk_alloc ?_ _));exact BK12.out) NB12_0.out (by simp));replace HK:=a0_ (KeepBut.trans (w:=w) hk_ hk (.inl rfl));replace HI0:=a0_ (hi);replace HB:=a0_ (hb);(try clear hb);(try clear hb2);(try clear hk);(try clear hi)) | ((with_reducible refine gate_callee (f:=48) rfl ?_);refine goesL_ (some 22) rfl rfl Try.func48 (by kernel_rfl) rfl #[.pointer (some ⟨g,0,none⟩),.int .i64 24] rfl lm_ ?_;(with_reducible refine (spec_reader_pick.calls k g s0_0 t14 24 t15 t16 w0 _ ?side1 ?side2 A6.out).mono ?_);(case side1=>exact is0_);(case side2=>exact hbi0_);rintro e w129 ⟨rfl,hi,hb,hk⟩;refine ⟨_,rfl,?_⟩;replace BK1:=kk_ hk BK1 NB1_0;replace BK2:=kk_ hk BK2 NB2_0;replace HO5:=a0_ (Kd.R_mono (Kd.R_keep (IsS76.apart (is0_ : IsS76 w0 _ g s0_0 t14) (rr_ HO5.out) (by decide)) hk (fun _ h=>h.2)) (fun _ h=>h.1));replace BK7:=kk_ hk BK7 NB7_0;replace HO10:=a0_ (Kd.R_mono (Kd.R_keep (IsS76.apart (is0_ : IsS76 w0 _ g s0_0 t14) (rr_ HO10.out) (by decide)) hk (fun _ h=>h.2)) (fun _ h=>h.1));replace BK12:=kk_ hk BK12 NB12_0;replace HK:=a0_ (KeepBut.trans (w:=w) hk_ hk (.inl rfl));replace HI0:=a0_ (hi);replace HB:=a0_ (hb);(try clear hb);(try clear hb2);(try clear hk);(try clear hi)))
        have n0_:=a0_ (Kd.R_drew HO5.out)
        have n1_:=a0_ (Kd.R_drew HO10.out)
        have n2_:=a0_ (blk_drew BK1.out)
        have n3_:=a0_ (blk_drew BK2.out)
        have n4_:=a0_ (blk_drew BK7.out)
        have n5_:=a0_ (blk_drew BK12.out)
        have n6_:=a0_ (IsS76.drew HI0.out)
        have n7_:=a0_ (keep_drew HK.out)
        have n8_:=a0_ (below_drew1 HB.out)
        clear HO5
        clear HO10
        clear BK1
        clear BK2
        clear BK7
        clear BK12
        clear HI0
        clear HK
        clear HB
        have HO5:=n0_
        have HO10:=n1_
        have BK1:=n2_
        have BK2:=n3_
        have BK7:=n4_
        have BK12:=n5_
        have HI0:=n6_
        have HK:=n7_
        have HB:=n8_
        clear n0_ n1_ n2_ n3_ n4_ n5_ n6_ n7_ n8_
        refine start_ (n:=10) (S:=fun w'=>w'.cell? ⟨gb12,0,none⟩ = some (.slice Ao122 t8.length co122)) (ds:=[9]) #[false,false,false,false,false,false,false,false,false,false] (by kernel_rfl) rfl rfl ((blk_cell BK12.out 0).trans rfl) (fun hHeld=>?_);refine with_tabW spec_someHeap.tab13 spec_someHeap.bits13 (fun HT_ HW_=>?_)
        generalize w129.drew = w130 at HO5 HO10 BK1 BK2 BK7 BK12 HI0 HK HB hHeld ⊢
        refine pure_ (i:=0) (N:=some 56) (v:=?_) (a':=?_) #[true,false,false,false,false,false,false,false,false,false] rfl rfl (any_of HT_.out (by kernel_rfl)) (fun _ _ _ h=>h) (Or.inl ⟨by rfl,?_⟩) ?_ ?_
        rotate_left
        ·intro w'
         go_simp
         with_reducible rfl
        rotate_left
        ·simp only [Act.put,s1_,s2_,s3_,i64_w,i32_w]
         rfl
        refine pure_ (i:=2) (N:=some 58) (v:=?_) (a':=?_) #[true,false,true,false,false,false,false,false,false,false] rfl rfl (any_of HT_.out (by kernel_rfl)) (fun _ _ _ h=>h) (Or.inl ⟨by rfl,?_⟩) ?_ ?_
        rotate_left
        ·intro w'
         go_simp
         with_reducible rfl
        rotate_left
        ·simp only [Act.put,s1_,s2_,s3_,i64_w,i32_w]
         rfl
        refine pure_ (i:=3) (N:=some 59) (v:=?_) (a':=?_) #[true,false,true,true,false,false,false,false,false,false] rfl rfl (any_of HT_.out (by kernel_rfl)) (fun _ _ _ h=>h) (Or.inl ⟨by rfl,?_⟩) ?_ ?_
        rotate_left
        ·intro w'
         go_simp
         with_reducible rfl
        rotate_left
        ·simp only [Act.put,s1_,s2_,s3_,i64_w,i32_w]
         rfl
        refine pure_ (i:=4) (N:=some 60) (v:=?_) (a':=?_) #[true,false,true,true,true,false,false,false,false,false] rfl rfl (any_of HT_.out (by kernel_rfl)) (fun _ _ _ h=>h) (Or.inl ⟨by rfl,?_⟩) ?_ ?_
        rotate_left
        ·intro w'
         go_simp
         with_reducible rfl
        rotate_left
        ·simp only [Act.put,s1_,s2_,s3_,i64_w,i32_w]
         rfl
        refine take_ (i:=1) (N:=some 57) (v:=?_) (a':=?_) #[true,true,true,true,true,false,false,false,false,false] rfl rfl (take_ofW HT_.out HW_.out (by kernel_rfl)) (fun _ _ _ h=>h) (Or.inl ⟨by rfl,?_⟩) hHeld ?_ ?_
        rotate_left
        ·intro w' s0
         go_simp
         with_reducible rfl
        rotate_left
        ·simp only [Act.put,s1_,s2_,s3_,i64_w,i32_w]
         rfl
        refine one_ (i:=5) (N:=some 61) #[true,true,true,true,true,true,false,false,false,false] rfl rfl (one_of HT_.out (by kernel_rfl)) (by decide) (fun K hK=>?_)
        refine Kd.R_lit_step (Kd.int .i64) _ 3 ?hg (N:=61) ?hd (xs:=([t13,24,0] : List Int)) (inner:=[.int .i64 t13,.int .i64 24,.int .i64 0]) (ok:=fun _=>True) (okp:=fun _=>True) ?hr ?hp (fun _ hk=>hk) trivial (Below.refl _ _) (Nat.le_refl _) (by simp) ?_;(case hd=>rfl);(case hg=>rfl);(case hr=>first | (go_simp;done) | (go_simp;rfl));(case hp=>exact (Reps.one (show Kd.M (Kd.int .i64) _ _ _ t13 [.int .i64 t13] from rfl) (Reps.one (show Kd.M (Kd.int .i64) _ _ _ 24 [.int .i64 24] from rfl) (Reps.one (show Kd.M (Kd.int .i64) _ _ _ 0 [.int .i64 0] from rfl) (Reps.none _ _)))))
        intro v33 w131 ho132 hb hg_ hnew_
        clear hg_ hnew_
        (first | rw [← Ny32.out] at ho132 | (simp only [Int.reduceToNat] at ho132;rw [← Ny32.out] at ho132))
        have n0_:=rb_ HO5 hb
        have n1_:=rb_ HO10 hb
        have n2_:=a0_ (Kd.R_lower ho132 (keep_size (w:=w) (g:=g) (row:=none) hk_))
        have n3_:=a0_ (IsS76.below is0_ hb)
        have n4_:=kb_ BK1 hb
        have n5_:=kb_ BK2 hb
        have n6_:=kb_ BK7 hb
        have n7_:=kb_ BK12 hb
        have n8_:=a0_ (KeepBut.trans (w:=w) hk_ (KeepBut.of_below hb g none) (.inl rfl))
        have n9_:=a0_ (below_step hbi0_ hb)
        clear HO5
        clear HO10
        clear HI0
        clear BK1
        clear BK2
        clear BK7
        clear BK12
        clear HK
        clear HB
        have HO5:=n0_
        have HO10:=n1_
        have HO34:=n2_
        have HI0:=n3_
        have BK1:=n4_
        have BK2:=n5_
        have BK7:=n6_
        have BK12:=n7_
        have HK:=n8_
        have HB:=n9_
        clear n0_ n1_ n2_ n3_ n4_ n5_ n6_ n7_ n8_ n9_
        clear hb ho132
        obtain ⟨Ao133,co133,eo133⟩:=Kd.R_slice HO34.out
        (first | subst eo133 | (injection eo133 with f1_ f2_ f3_;have f4_:=f1_.symm;have f5_:=f3_.symm;clear f1_ f2_ f3_;subst f4_;subst f5_))
        refine hK.out _ _ ((blk_cell BK12.out 0).trans rfl) (fun hHeld=>?_)
        clear hK K
        refine norm_ (a':=?_) ?_ ?_
        rotate_left
        ·show Act.put _ (some 61) _ = _
         simp only [Act.put,s1_,s2_,s3_,i64_w,i32_w]
         rfl
        refine one_ (i:=6) (N:=some 62) #[true,true,true,true,true,true,true,false,false,false] rfl rfl (one_of HT_.out (by kernel_rfl)) (by decide) (fun K hK=>?_)
        refine goes_ Try.func42 (by kernel_rfl) rfl #[.pointer (some ⟨g,0,none⟩),.slice Ao133 y32.length co133] (by rfl) rfl rfl lm_ ?_
        with_reducible refine (spec_reader_one.calls k g s0_0 t16 _ _ y32 t35 t36 w0 _ ?side1 ?side2 ?side3 ?side4 ?side5 A107.out).mono ?_
        (case side1=>exact is0_)
        (case side2=>exact hbi0_)
        (case side3=>exact cc_ (Kd.R_reads' HO34.out).2.2)
        (case side4=>exact (Kd.R_reads' HO34.out).2.1)
        (case side5=>exact far_slice (IsS76.own_ne HI0.out HO34.out (by decide)))
        rintro e w134 ⟨rfl,hi,hb,hk⟩
        refine ⟨_,rfl,?_⟩
        have n0_:=kk_ hk BK1 NB1_0
        have n1_:=kk_ hk BK2 NB2_0
        have n2_:=a0_ (Kd.R_mono (Kd.R_keep (IsS76.apart (is0_ : IsS76 w0 _ g s0_0 t16) (rr_ HO5.out) (by decide)) hk (fun _ h=>h.2)) (fun _ h=>h.1))
        have n3_:=kk_ hk BK7 NB7_0
        have n4_:=a0_ (Kd.R_mono (Kd.R_keep (IsS76.apart (is0_ : IsS76 w0 _ g s0_0 t16) (rr_ HO10.out) (by decide)) hk (fun _ h=>h.2)) (fun _ h=>h.1))
        have n5_:=kk_ hk BK12 NB12_0
        have n6_:=a0_ (Kd.R_mono (Kd.R_keep (IsS76.apart (is0_ : IsS76 w0 _ g s0_0 t16) (rr_ HO34.out) (by decide)) hk (fun _ h=>h.2)) (fun _ h=>h.1))
        have n7_:=a0_ (KeepBut.trans (w:=w) hk_ hk (.inl rfl))
        have n8_:=a0_ (hb)
        have n9_:=a0_ (hi)
        clear BK1
        clear BK2
        clear HO5
        clear BK7
        clear HO10
        clear BK12
        clear HO34
        clear HK
        clear HB
        clear HI0
        have BK1:=n0_
        have BK2:=n1_
        have HO5:=n2_
        have BK7:=n3_
        have HO10:=n4_
        have BK12:=n5_
        have HO34:=n6_
        have HK:=n7_
        have HB:=n8_
        have HI0:=n9_
        clear n0_ n1_ n2_ n3_ n4_ n5_ n6_ n7_ n8_ n9_
        (try clear hb)
        (try clear hb2)
        (try clear hk)
        (try clear hi)
        have p110 : 0 ≤ (t13 : Int):=of_decide_eq_true (by first | (with_reducible assumption) | assumption)
        have q110 : (t13 : Int) < ((t8.length : Int) : Int):=of_decide_eq_true (by first | (with_reducible assumption) | assumption)
        obtain ⟨go110,co110,eo110,gb110,gl110,cl110,HG110⟩:=Kd.R_form HO10.out (by omega)
        (first | cases eo110 | (injection eo110 with ea_ en_ ec_;(first | subst ea_ | (injection ea_ with ea_;subst ea_));subst ec_;clear en_))
        have GB110:=a0_ gb110
        have GG110:=a0_ HG110
        clear gb110 gl110 HG110
        obtain ⟨ce110,hcl110,hM110,hcc110,hfr110⟩:=Kd.R_elem HO10.out z43 (t13 : Int) p110 q110
        obtain rfl:=k43_openM hM110
        have hx110_0 : World.cell? _ ⟨go110,(t13 : Int).toNat * 5,none⟩ = some (.int .i64 ((rd_T43 t8 t13).f0)):=hcc110 0 _ rfl
        have hx110_1 : World.cell? _ ⟨go110,(t13 : Int).toNat * 5 + 1,none⟩ = some (.int .i64 ((rd_T43 t8 t13).f1)):=hcc110 1 _ rfl
        have hx110_2 : World.cell? _ ⟨go110,(t13 : Int).toNat * 5 + 2,none⟩ = some (.int .i64 ((rd_T43 t8 t13).f2)):=hcc110 2 _ rfl
        have hx110_3 : World.cell? _ ⟨go110,(t13 : Int).toNat * 5 + 3,none⟩ = some (.int .i64 ((rd_T43 t8 t13).f3)):=hcc110 3 _ rfl
        have hx110_4 : World.cell? _ ⟨go110,(t13 : Int).toNat * 5 + 4,none⟩ = some (.bool ((rd_T43 t8 t13).f4)):=hcc110 4 _ rfl
        have hf110_0 : World.frozen? _ ⟨go110,(t13 : Int).toNat * 5,none⟩ = false:=hfr110 0
        have hf110_1 : World.frozen? _ ⟨go110,(t13 : Int).toNat * 5 + 1,none⟩ = false:=hfr110 1
        have hf110_2 : World.frozen? _ ⟨go110,(t13 : Int).toNat * 5 + 2,none⟩ = false:=hfr110 2
        have hf110_3 : World.frozen? _ ⟨go110,(t13 : Int).toNat * 5 + 3,none⟩ = false:=hfr110 3
        have hf110_4 : World.frozen? _ ⟨go110,(t13 : Int).toNat * 5 + 4,none⟩ = false:=hfr110 4
        clear hcl110 hcc110 hfr110 hM110
        replace p110:=eq_true p110
        replace q110:=eq_true q110
        have HN0_go110:=a0_ (show g ≠ go110 from by have h_:=IsS76.own_ne HI0.out HO10.out (by decide);intro e_;exact h_ (by rw [e_];rfl))
        obtain ⟨ce135,hcl135,hM135,hcc135,hfr135⟩:=Kd.R_elem HO10.out z43 (t13 : Int) (of_decide_eq_true (by first | (with_reducible assumption) | assumption)) (by have h_ : (t13 : Int) < ((t8.length : Int) : Int):=of_decide_eq_true (by first | (with_reducible assumption) | assumption);first | exact h_ | (have e_:=(Kd.R_reads' HO10.out).1;omega) | simpa using h_)
        obtain rfl:=k43_openM hM135
        have HP135:=(Kd.R_seg HO10.out (t13 : Int) (of_decide_eq_true (by first | (with_reducible assumption) | assumption)) (by have h_ : (t13 : Int) < ((t8.length : Int) : Int):=of_decide_eq_true (by first | (with_reducible assumption) | assumption);first | exact h_ | (have e_:=(Kd.R_reads' HO10.out).1;omega) | simpa using h_) (seg:=[.int .i64 t35]) (j:=2) hcl135 hcc135 (show 3 ≤ 5 from by decide) (x':=(⟨(rd_T43 t8 t13).f0,(rd_T43 t8 t13).f1,t35,(rd_T43 t8 t13).f3,(rd_T43 t8 t13).f4⟩ : S43)) (k43_mkM _ _ _ (⟨(rd_T43 t8 t13).f0,(rd_T43 t8 t13).f1,t35,(rd_T43 t8 t13).f3,(rd_T43 t8 t13).f4⟩ : S43) ) (fun _ hk=>hk)).1
        rw [← Ny37.out] at HP135
        have HQ135:=a0_ HP135
        clear hcl135 hcc135 hfr135 hM135 HP135
        refine hK.out _ _ ((blk_cell BK12.out 0).trans rfl) (fun hHeld=>?_)
        clear hK K
        refine norm_ (a':=?_) ?_ ?_
        rotate_left
        ·show Act.put _ (some 62) _ = _
         simp only [Act.put,s1_,s2_,s3_,i64_w,i32_w]
         rfl
        refine pure_ (i:=7) (N:=some 63) (v:=?_) (a':=?_) #[true,true,true,true,true,true,true,true,false,false] rfl rfl (any_of HT_.out (by kernel_rfl)) (fun _ _ _ h=>h) (Or.inl ⟨by rfl,?_⟩) ?_ ?_
        rotate_left
        ·intro w'
         go_simp
         with_reducible rfl
        rotate_left
        ·simp only [Act.put,s1_,s2_,s3_,i64_w,i32_w]
         rfl
        refine pure_ (i:=8) (N:=some 64) (v:=?_) (a':=?_) #[true,true,true,true,true,true,true,true,true,false] rfl rfl (any_of HT_.out (by kernel_rfl)) (fun _ _ _ h=>h) (Or.inl ⟨by rfl,?_⟩) ?_ ?_
        rotate_left
        ·intro w'
         go_simp
         with_reducible rfl
        rotate_left
        ·simp only [Act.put,s1_,s2_,s3_,i64_w,i32_w]
         rfl
        refine last_ (i:=9) (N:=none) #[true,true,true,true,true,true,true,true,true,true] rfl rfl (one_of HT_.out (by kernel_rfl)) (by decide) (fun K hK=>?_)
        refine skip_ (w1:=?_) (by rfl) rfl ?_ ?_
        rotate_left
        ·go_simp
         rfl
        refine hK.out _ _ ?_
        clear hK K
        refine done_ (done_of HT_.out (by kernel_rfl)) ?_
        have n0_ : Aside0 (Kd.R k87 87 (w134.setCell ⟨go110,(t13 : Int).toNat * 5 + 2,none⟩ (.int .i64 t35)) w.heap.size (fun _=>True) (.slice Ao115 t3.length co115) t3):=⟨by (with_reducible repeat (first | apply Kd.R_alloc | apply Kd.R_drewN | apply Kd.R_drew));exact Kd.R_mono (Kd.R_far (p:=⟨go110,(t13 : Int).toNat * 5 + 2,none⟩) (Kd.R_types HO5.out GG110.out (by decide)) (fun _ hk=>hk.2) (.int .i64 t35)) (fun _ hk=>trivial)⟩
        have n1_ : Aside0 (Kd.R k43 43 (w134.setCell ⟨go110,(t13 : Int).toNat * 5 + 2,none⟩ (.int .i64 t35)) w.heap.size (fun _=>True) (.slice (some ⟨go110,0,none⟩) t8.length co122) y37):=⟨by (with_reducible repeat (first | apply Kd.R_alloc | apply Kd.R_drewN | apply Kd.R_drew));exact HQ135.out⟩
        have n2_ : Aside0 (Kd.R (Kd.int .i64) 3 (w134.setCell ⟨go110,(t13 : Int).toNat * 5 + 2,none⟩ (.int .i64 t35)) w.heap.size (fun _=>True) (.slice Ao133 y32.length co133) y32):=⟨by (with_reducible repeat (first | apply Kd.R_alloc | apply Kd.R_drewN | apply Kd.R_drew));exact Kd.R_mono (Kd.R_far (p:=⟨go110,(t13 : Int).toNat * 5 + 2,none⟩) (Kd.R_types HO34.out GG110.out (by decide)) (fun _ hk=>hk.2) (.int .i64 t35)) (fun _ hk=>trivial)⟩
        have n3_ : Aside0 ((w134.setCell ⟨go110,(t13 : Int).toNat * 5 + 2,none⟩ (.int .i64 t35)).heap[gb1]? = some (.cells #[.slice none 0 0] 25 (0,0))):=⟨by (with_reducible repeat (first | refine blk_drewN ?_ _ | refine blk_drew ?_ | refine blk_alloc ?_ _));refine blk_far ?_ (by have h_:=Kd.R_ne HO10.out BK1.out (by decide);intro e_;exact h_ (by rw [e_];rfl)) _;(with_reducible repeat (first | refine blk_drewN ?_ _ | refine blk_drew ?_ | refine blk_alloc ?_ _));exact BK1.out⟩
        have n4_ : Aside0 ((w134.setCell ⟨go110,(t13 : Int).toNat * 5 + 2,none⟩ (.int .i64 t35)).heap[gb2]? = some (.cells #[.slice none 0 0] 28 (0,0))):=⟨by (with_reducible repeat (first | refine blk_drewN ?_ _ | refine blk_drew ?_ | refine blk_alloc ?_ _));refine blk_far ?_ (by have h_:=Kd.R_ne HO10.out BK2.out (by decide);intro e_;exact h_ (by rw [e_];rfl)) _;(with_reducible repeat (first | refine blk_drewN ?_ _ | refine blk_drew ?_ | refine blk_alloc ?_ _));exact BK2.out⟩
        have n5_ : Aside0 ((w134.setCell ⟨go110,(t13 : Int).toNat * 5 + 2,none⟩ (.int .i64 t35)).heap[gb7]? = some (.cells #[.slice Ao115 t3.length co115] 25 (0,0))):=⟨by (with_reducible repeat (first | refine blk_drewN ?_ _ | refine blk_drew ?_ | refine blk_alloc ?_ _));refine blk_far ?_ (by have h_:=Kd.R_ne HO10.out BK7.out (by decide);intro e_;exact h_ (by rw [e_];rfl)) _;(with_reducible repeat (first | refine blk_drewN ?_ _ | refine blk_drew ?_ | refine blk_alloc ?_ _));exact BK7.out⟩
        have n6_ : Aside0 ((w134.setCell ⟨go110,(t13 : Int).toNat * 5 + 2,none⟩ (.int .i64 t35)).heap[gb12]? = some (.cells #[.slice (some ⟨go110,0,none⟩) t8.length co122] 28 (0,0))):=⟨by (with_reducible repeat (first | refine blk_drewN ?_ _ | refine blk_drew ?_ | refine blk_alloc ?_ _));refine blk_far ?_ (by have h_:=Kd.R_ne HO10.out BK12.out (by decide);intro e_;exact h_ (by rw [e_];rfl)) _;(with_reducible repeat (first | refine blk_drewN ?_ _ | refine blk_drew ?_ | refine blk_alloc ?_ _));exact BK12.out⟩
        have n7_ : Aside0 (IsS76 w0 (w134.setCell ⟨go110,(t13 : Int).toNat * 5 + 2,none⟩ (.int .i64 t35)) g s0_0 t36):=⟨is0_⟩
        have n8_ : Aside0 (KeepBut w (w134.setCell ⟨go110,(t13 : Int).toNat * 5 + 2,none⟩ (.int .i64 t35)) g none):=⟨hk_⟩
        have n9_ : Aside0 (Below w0.heap.size w0 (w134.setCell ⟨go110,(t13 : Int).toNat * 5 + 2,none⟩ (.int .i64 t35))):=⟨by repeat (first | (with_reducible first | exact HB.out | apply below_alloc | apply pw_below_drewN | apply below_drew1 | refine below_set ?_ (Nat.le_trans HL.out GB110.out) | refine below_set ?_ (IsS76.ge HI0.out) | refine below_set ?_ GE1.out | refine below_set ?_ GE2.out | refine below_set ?_ GE7.out | refine below_set ?_ GE12.out) | exact HB.out)⟩
        (try clear HO5)
        (try clear HO10)
        (try clear HO34)
        (try clear BK1)
        (try clear BK2)
        (try clear BK7)
        (try clear BK12)
        (try clear HI0)
        (try clear HK)
        (try clear HB)
        generalize (w134.setCell ⟨go110,(t13 : Int).toNat * 5 + 2,none⟩ (.int .i64 t35)) = w136 at n0_ n1_ n2_ n3_ n4_ n5_ n6_ n7_ n8_ n9_ ⊢
        have HO5:=n0_
        have HO10:=n1_
        have HO34:=n2_
        have BK1:=n3_
        have BK2:=n4_
        have BK7:=n5_
        have BK12:=n6_
        have HI0:=n7_
        have HK:=n8_
        have HB:=n9_
        clear n0_ n1_ n2_ n3_ n4_ n5_ n6_ n7_ n8_ n9_
        try go_wp2
        have n0_:=a0_ (Kd.R_drew HO5.out)
        have n1_:=a0_ (Kd.R_drew HO10.out)
        have n2_:=a0_ (Kd.R_drew HO34.out)
        have n3_:=a0_ (blk_drew BK1.out)
        have n4_:=a0_ (blk_drew BK2.out)
        have n5_:=a0_ (blk_drew BK7.out)
        have n6_:=a0_ (blk_drew BK12.out)
        have n7_:=a0_ (IsS76.drew HI0.out)
        have n8_:=a0_ (keep_drew HK.out)
        have n9_:=a0_ (below_drew1 HB.out)
        clear HO5
        clear HO10
        clear HO34
        clear BK1
        clear BK2
        clear BK7
        clear BK12
        clear HI0
        clear HK
        clear HB
        have HO5:=n0_
        have HO10:=n1_
        have HO34:=n2_
        have BK1:=n3_
        have BK2:=n4_
        have BK7:=n5_
        have BK12:=n6_
        have HI0:=n7_
        have HK:=n8_
        have HB:=n9_
        clear n0_ n1_ n2_ n3_ n4_ n5_ n6_ n7_ n8_ n9_
        refine start_ (n:=4) (S:=fun w'=>w'.cell? ⟨gb7,0,none⟩ = some (.slice Ao115 t3.length co115) ∧ w'.cell? ⟨gb12,0,none⟩ = some (.slice (some ⟨go110,0,none⟩) t8.length co122)) (ds:=[]) #[false,false,false,false] (by kernel_rfl) rfl rfl ⟨(blk_cell BK7.out 0).trans rfl,(blk_cell BK12.out 0).trans rfl⟩ (fun hHeld=>?_)
        generalize w136.drew = w137 at HO5 HO10 HO34 BK1 BK2 BK7 BK12 HI0 HK HB hHeld ⊢
        refine take_ (i:=0) (N:=some 65) (v:=?_) (a':=?_) #[true,false,false,false] rfl rfl (by kernel_rfl) (fun _ _ _ h=>h) (Or.inl ⟨by rfl,?_⟩) hHeld ?_ ?_
        rotate_left
        ·rintro w' ⟨s0,s1⟩
         go_simp
         with_reducible rfl
        rotate_left
        ·simp only [Act.put,s1_,s2_,s3_,i64_w,i32_w]
         rfl
        refine take_ (i:=1) (N:=some 66) (v:=?_) (a':=?_) #[true,true,false,false] rfl rfl (by kernel_rfl) (fun _ _ _ h=>h) (Or.inl ⟨by rfl,?_⟩) hHeld ?_ ?_
        rotate_left
        ·rintro w' ⟨s0,s1⟩
         go_simp
         with_reducible rfl
        rotate_left
        ·simp only [Act.put,s1_,s2_,s3_,i64_w,i32_w]
         rfl
        refine one_ (i:=2) (N:=none) #[true,true,true,false] rfl rfl (by kernel_rfl) (by decide) (fun K hK=>?_)
        have hs138 : w137.cell? ⟨gb1,0,none⟩ = some (.slice none 0 0):=(blk_cell BK1.out 0).trans rfl
        have hfs138:=blk_frozen BK1.out 0
        have hns138_1:=NB2_1.out
        have hns138_2:=NB7_1.out
        have hns138_3:=NB12_1.out
        have hms138_1:=NB1_2.out
        have hms138_2:=NB1_7.out
        have hms138_3:=NB1_12.out
        refine skip_ (w1:=?_) (by rfl) rfl ?_ ?_
        rotate_left
        ·go_simp
         rfl
        refine hK.out _ _ ⟨((cell_far (p:=⟨gb1,_,none⟩) NB7_1.out _).trans (hHeld.1)),((cell_far (p:=⟨gb1,_,none⟩) NB12_1.out _).trans (hHeld.2))⟩ (fun hHeld=>?_)
        clear hK K
        refine one_ (i:=3) (N:=none) #[true,true,true,true] rfl rfl (by kernel_rfl) (by decide) (fun K hK=>?_)
        have hs139 : w137.cell? ⟨gb2,0,none⟩ = some (.slice none 0 0):=(blk_cell BK2.out 0).trans rfl
        have hfs139:=blk_frozen BK2.out 0
        have hns139_0:=NB1_2.out
        have hns139_2:=NB7_2.out
        have hns139_3:=NB12_2.out
        have hms139_0:=NB2_1.out
        have hms139_2:=NB2_7.out
        have hms139_3:=NB2_12.out
        refine skip_ (w1:=?_) (by rfl) rfl ?_ ?_
        rotate_left
        ·go_simp
         rfl
        refine hK.out _ _ ⟨((cell_far (p:=⟨gb2,_,none⟩) NB7_2.out _).trans (hHeld.1)),((cell_far (p:=⟨gb2,_,none⟩) NB12_2.out _).trans (hHeld.2))⟩ (fun hHeld=>?_)
        clear hK K
        refine done_ (by kernel_rfl) ?_
        try go_wp2
        refine bodyPost_ret (results_cc rfl _ _ gb1 gb2 25 28 #[.slice Ao115 t3.length co115] #[.slice (some ⟨go110,0,none⟩) t8.length co122] (0,0) (0,0) _ _ rfl (by (with_reducible repeat (first | refine blk_drewN ?_ _ | refine blk_drew ?_ | refine blk_alloc ?_ _));refine blk_far ?_ NB1_2.out _;(with_reducible repeat (first | refine blk_drewN ?_ _ | refine blk_drew ?_ | refine blk_alloc ?_ _));refine blk_put (cs:=#[.slice none 0 0]) ?_ 0 _ rfl;(with_reducible repeat (first | refine blk_drewN ?_ _ | refine blk_drew ?_ | refine blk_alloc ?_ _));exact BK1.out) Try.underlying25 rfl (by kernel_rfl) rfl (by (with_reducible repeat (first | refine blk_drewN ?_ _ | refine blk_drew ?_ | refine blk_alloc ?_ _));refine blk_put (cs:=#[.slice none 0 0]) ?_ 0 _ rfl;(with_reducible repeat (first | refine blk_drewN ?_ _ | refine blk_drew ?_ | refine blk_alloc ?_ _));refine blk_far ?_ NB2_1.out _;(with_reducible repeat (first | refine blk_drewN ?_ _ | refine blk_drew ?_ | refine blk_alloc ?_ _));exact BK2.out) Try.underlying28 rfl (by kernel_rfl)) rfl ?_
        exact ⟨_,_,by first | rfl | (simp [errW_none,errW_some] <;> rfl) | (simp [*,errW_none,errW_some] <;> rfl),by (with_reducible repeat (first | apply Kd.R_alloc | apply Kd.R_drewN | apply Kd.R_drew));exact Kd.R_mono (Kd.R_far (p:=⟨gb2,0,none⟩) (Kd.R_far (p:=⟨gb1,0,none⟩) (Kd.R_types (Kd.R_types HO5.out BK1.out (by decide)) BK2.out (by decide)) (fun _ hk=>hk.1.2) (.slice Ao115 t3.length co115)) (fun _ hk=>hk.2) (.slice (some ⟨go110,0,none⟩) t8.length co122)) (fun _ hk=>trivial),by (with_reducible repeat (first | apply Kd.R_alloc | apply Kd.R_drewN | apply Kd.R_drew));exact Kd.R_mono (Kd.R_far (p:=⟨gb2,0,none⟩) (Kd.R_far (p:=⟨gb1,0,none⟩) (Kd.R_types (Kd.R_types HO10.out BK1.out (by decide)) BK2.out (by decide)) (fun _ hk=>hk.1.2) (.slice Ao115 t3.length co115)) (fun _ hk=>hk.2) (.slice (some ⟨go110,0,none⟩) t8.length co122)) (fun _ hk=>trivial),is0_,hbi0_,hk_⟩
       ·rw [if_neg c109] at H
        exact absurd H (by simp)
      ·rw [if_neg c108] at H
       exact absurd H (by simp)
     ·rw [if_neg c106] at H
      have c106b0 : (t15 == 3) = false:=beq_eq_false_iff_ne.mpr c106
      have c106b1 : (t15 != 3) = true:=bne_iff_ne.mpr c106
      simp only [Option.some.injEq,Prod.mk.injEq] at H
      obtain ⟨rfl,rfl,rfl⟩:=H
      go_enter Try.func40,Try.ntmps40
      try go_wp2_with (first | ((with_reducible refine gate_dst (N:=2) rfl ?_);refine box_event ?hg (N:=2) ?hd (cs:=#[.slice none 0 0]) (t:=25) ?hr ?_;(case hd=>rfl);(case hg=>rfl);(case hr=>first | (go_simp;done) | (go_simp;rfl));intro gb1 hg w140 hbox hb;have n0_:=a0_ (IsS76.below is0_ hb);have n1_:=a0_ (KeepBut.trans (w:=w) hk_ (KeepBut.of_below hb g none) (.inl rfl));have n2_:=a0_ (below_step hbi0_ hb);have n3_:=a0_ (hbox);have n4_:=a0_ ((by rw [hg];exact (keep_size (w:=w) (g:=g) (row:=none) hk_) : w.heap.size ≤ gb1));have n5_:=a0_ ((Nat.le_trans HW0.out (by rw [hg];exact (keep_size (w:=w) (g:=g) (row:=none) hk_) : w.heap.size ≤ gb1) : w0.heap.size ≤ gb1));have n6_:=a0_ ((by rw [hg];exact Nat.ne_of_lt (IsS76.lt (is0_ : IsS76 w0 _ g s0_0 s0_1)) : g ≠ gb1));have n7_:=a0_ ((by rw [hg];exact Nat.ne_of_gt (IsS76.lt (is0_ : IsS76 w0 _ g s0_0 s0_1)) : gb1 ≠ g));clear HI0 HK HB;have HI0:=n0_;have HK:=n1_;have HB:=n2_;have BK1:=n3_;have GW1:=n4_;have GE1:=n5_;have NB0_1:=n6_;have NB1_0:=n7_;clear n0_ n1_ n2_ n3_ n4_ n5_ n6_ n7_;clear hb hbox hg) | ((with_reducible refine gate_dst (N:=3) rfl ?_);refine box_event ?hg (N:=3) ?hd (cs:=#[.slice none 0 0]) (t:=28) ?hr ?_;(case hd=>rfl);(case hg=>rfl);(case hr=>first | (go_simp;done) | (go_simp;rfl));intro gb2 hg w141 hbox hb;have n0_:=a0_ (IsS76.below is0_ hb);have n1_:=kb_ BK1 hb;have n2_:=a0_ (KeepBut.trans (w:=w) hk_ (KeepBut.of_below hb g none) (.inl rfl));have n3_:=a0_ (below_step hbi0_ hb);have n4_:=a0_ (hbox);have n5_:=a0_ ((by rw [hg];exact (keep_size (w:=w) (g:=g) (row:=none) hk_) : w.heap.size ≤ gb2));have n6_:=a0_ ((Nat.le_trans HW0.out (by rw [hg];exact (keep_size (w:=w) (g:=g) (row:=none) hk_) : w.heap.size ≤ gb2) : w0.heap.size ≤ gb2));have n7_:=a0_ ((by rw [hg];exact Nat.ne_of_lt (blk_lt (bb_ BK1.out)) : gb1 ≠ gb2));have n8_:=a0_ ((by rw [hg];exact Nat.ne_of_gt (blk_lt (bb_ BK1.out)) : gb2 ≠ gb1));have n9_:=a0_ ((by rw [hg];exact Nat.ne_of_lt (IsS76.lt (is0_ : IsS76 w0 _ g s0_0 s0_1)) : g ≠ gb2));have n10_:=a0_ ((by rw [hg];exact Nat.ne_of_gt (IsS76.lt (is0_ : IsS76 w0 _ g s0_0 s0_1)) : gb2 ≠ g));clear HI0 BK1;clear HK HB;have HI0:=n0_;have BK1:=n1_;have HK:=n2_;have HB:=n3_;have BK2:=n4_;have GW2:=n5_;have GE2:=n6_;have NB1_2:=n7_;have NB2_1:=n8_;have NB0_2:=n9_;have NB2_0:=n10_;clear n0_ n1_ n2_ n3_ n4_ n5_ n6_ n7_ n8_ n9_ n10_;clear hb hbox hg) | ((with_reducible refine gate_callee (f:=66) rfl ?_);refine goesL_ (some 8) rfl rfl Try.func66 (by kernel_rfl) rfl #[.pointer (some ⟨g,0,none⟩)] rfl lm_ ?_;(with_reducible refine (spec_someTree.calls k g s0_0 s0_1 t3 t6 w0 _ ?side1 ?side2 A2.out).mono ?_);(case side1=>exact is0_);(case side2=>exact hbi0_);rintro e w142 ⟨v4,rfl,ho0,hi,hb,hk⟩;refine ⟨_,rfl,?_⟩;replace BK1:=kk_ hk BK1 NB1_0;replace BK2:=kk_ hk BK2 NB2_0;have HO5:=a0_ (Kd.R_lower ho0 (keep_size (w:=w) (g:=g) (row:=none) hk_));replace HK:=a0_ (KeepBut.trans (w:=w) hk_ hk (.inl rfl));replace HI0:=a0_ (hi);replace HB:=a0_ (hb);(try clear hb);(try clear ho0)) | ((with_reducible refine gate_dst (N:=4) rfl ?_);refine box_event ?hg (N:=4) ?hd (cs:=#[.slice none 0 0]) (t:=25) ?hr ?_;(case hd=>rfl);(case hg=>rfl);(case hr=>first | (go_simp;done) | (go_simp;rfl));intro gb7 hg w143 hbox hb;have n0_:=rb_ HO5 hb;have n1_:=a0_ (IsS76.below is0_ hb);have n2_:=kb_ BK1 hb;have n3_:=kb_ BK2 hb;have n4_:=a0_ (KeepBut.trans (w:=w) hk_ (KeepBut.of_below hb g none) (.inl rfl));have n5_:=a0_ (below_step hbi0_ hb);have n6_:=a0_ (hbox);have n7_:=a0_ ((by rw [hg];exact (keep_size (w:=w) (g:=g) (row:=none) hk_) : w.heap.size ≤ gb7));have n8_:=a0_ ((Nat.le_trans HW0.out (by rw [hg];exact (keep_size (w:=w) (g:=g) (row:=none) hk_) : w.heap.size ≤ gb7) : w0.heap.size ≤ gb7));have n9_:=a0_ ((by rw [hg];exact Nat.ne_of_lt (blk_lt (bb_ BK1.out)) : gb1 ≠ gb7));have n10_:=a0_ ((by rw [hg];exact Nat.ne_of_gt (blk_lt (bb_ BK1.out)) : gb7 ≠ gb1));have n11_:=a0_ ((by rw [hg];exact Nat.ne_of_lt (blk_lt (bb_ BK2.out)) : gb2 ≠ gb7));have n12_:=a0_ ((by rw [hg];exact Nat.ne_of_gt (blk_lt (bb_ BK2.out)) : gb7 ≠ gb2));have n13_:=a0_ ((by rw [hg];exact Nat.ne_of_lt (IsS76.lt (is0_ : IsS76 w0 _ g s0_0 t6)) : g ≠ gb7));have n14_:=a0_ ((by rw [hg];exact Nat.ne_of_gt (IsS76.lt (is0_ : IsS76 w0 _ g s0_0 t6)) : gb7 ≠ g));clear HO5 HI0;clear BK1 BK2;clear HK HB;have HO5:=n0_;have HI0:=n1_;have BK1:=n2_;have BK2:=n3_;have HK:=n4_;have HB:=n5_;have BK7:=n6_;have GW7:=n7_;have GE7:=n8_;have NB1_7:=n9_;have NB7_1:=n10_;have NB2_7:=n11_;have NB7_2:=n12_;have NB0_7:=n13_;have NB7_0:=n14_;clear n0_ n1_ n2_ n3_ n4_ n5_ n6_ n7_ n8_ n9_ n10_ n11_ n12_ n13_ n14_;clear hb hbox hg;obtain ⟨Ao144,co144,eo144⟩:=Kd.R_slice HO5.out;subst eo144;have hnb145:=NB7_1.out;have hnc145:=NB1_7.out;have hnb146:=NB7_2.out;have hnc146:=NB2_7.out;have hnb147:=NB7_0.out;have hnc147:=NB0_7.out;have hcz148_0 : w143.cell? ⟨gb7,0,none⟩ = some (.slice none 0 0):=(blk_cell BK7.out 0).trans rfl;have hfz148_0:=blk_frozen BK7.out 0) | ((with_reducible refine gate_callee (f:=67) rfl ?_);refine goesL_ (some 11) rfl rfl Try.func67 (by kernel_rfl) rfl #[.pointer (some ⟨g,0,none⟩),.agg #[.slice Ao144 t3.length co144]] rfl lm_ ?_;(with_reducible refine (spec_goodHeap.calls k g s0_0 t6 _ _ t3 t8 t11 w0 _ ?side1 ?side2 ?side3 ?side4 A3.out).mono ?_);(case side1=>exact is0_);(case side2=>exact hbi0_);(case side3=>exact Kd.C_foot_own (IsS76.apart (is0_ : IsS76 w0 _ g s0_0 t6) (by (with_reducible repeat (first | apply Kd.R_alloc | apply Kd.R_drewN | apply Kd.R_drew));exact (Kd.R_mono (Kd.R_far (p:=⟨gb7,0,none⟩) (Kd.R_types HO5.out BK7.out (by decide)) (fun _ hk=>hk.2) (.slice Ao144 t3.length co144)) (fun _ h_=>h_.1))) (by decide)) (fun _ h_=>h_.2));(case side4=>exact (Kd.R_reads' HO5.out).2.1);rintro e w149 ⟨v9,rfl,ho0,hi,hb,hk⟩;refine ⟨_,rfl,?_⟩;replace BK1:=kk_ hk BK1 NB1_0;replace BK2:=kk_ hk BK2 NB2_0;replace HO5:=a0_ (Kd.R_mono (Kd.R_keep (IsS76.apart (is0_ : IsS76 w0 _ g s0_0 t6) (by (with_reducible repeat (first | apply Kd.R_alloc | apply Kd.R_drewN | apply Kd.R_drew));exact (Kd.R_mono (Kd.R_far (p:=⟨gb7,0,none⟩) (Kd.R_types HO5.out BK7.out (by decide)) (fun _ hk=>hk.2) (.slice Ao144 t3.length co144)) (fun _ h_=>h_.1))) (by decide)) hk (fun _ h=>h.2)) (fun _ h=>h.1));replace BK7:=a0_ (KeepBut.blk hk (g':=gb7) (o:=.cells #[.slice Ao144 t3.length co144] 25 (0,0)) (by (with_reducible repeat (first | refine blk_drewN ?_ _ | refine blk_drew ?_ | refine blk_alloc ?_ _));refine blk_put (cs:=#[.slice none 0 0]) ?_ 0 _ rfl;(with_reducible repeat (first | refine blk_drewN ?_ _ | refine blk_drew ?_ | refine blk_alloc ?_ _));exact BK7.out) NB7_0.out (by simp));have HO10:=a0_ (Kd.R_lower ho0 (keep_size (w:=w) (g:=g) (row:=none) hk_));replace HK:=a0_ (KeepBut.trans (w:=w) hk_ hk (.inl rfl));replace HI0:=a0_ (hi);replace HB:=a0_ (hb);(try clear hb);(try clear ho0)) | ((with_reducible refine gate_dst (N:=5) rfl ?_);refine box_event ?hg (N:=5) ?hd (cs:=#[.slice none 0 0]) (t:=28) ?hr ?_;(case hd=>rfl);(case hg=>rfl);(case hr=>first | (go_simp;done) | (go_simp;rfl));intro gb12 hg w150 hbox hb;have n0_:=rb_ HO5 hb;have n1_:=rb_ HO10 hb;have n2_:=a0_ (IsS76.below is0_ hb);have n3_:=kb_ BK1 hb;have n4_:=kb_ BK2 hb;have n5_:=kb_ BK7 hb;have n6_:=a0_ (KeepBut.trans (w:=w) hk_ (KeepBut.of_below hb g none) (.inl rfl));have n7_:=a0_ (below_step hbi0_ hb);have n8_:=a0_ (hbox);have n9_:=a0_ ((by rw [hg];exact (keep_size (w:=w) (g:=g) (row:=none) hk_) : w.heap.size ≤ gb12));have n10_:=a0_ ((Nat.le_trans HW0.out (by rw [hg];exact (keep_size (w:=w) (g:=g) (row:=none) hk_) : w.heap.size ≤ gb12) : w0.heap.size ≤ gb12));have n11_:=a0_ ((by rw [hg];exact Nat.ne_of_lt (blk_lt (bb_ BK1.out)) : gb1 ≠ gb12));have n12_:=a0_ ((by rw [hg];exact Nat.ne_of_gt (blk_lt (bb_ BK1.out)) : gb12 ≠ gb1));have n13_:=a0_ ((by rw [hg];exact Nat.ne_of_lt (blk_lt (bb_ BK2.out)) : gb2 ≠ gb12));have n14_:=a0_ ((by rw [hg];exact Nat.ne_of_gt (blk_lt (bb_ BK2.out)) : gb12 ≠ gb2));have n15_:=a0_ ((by rw [hg];exact Nat.ne_of_lt (blk_lt (bb_ BK7.out)) : gb7 ≠ gb12));have n16_:=a0_ ((by rw [hg];exact Nat.ne_of_gt (blk_lt (bb_ BK7.out)) : gb12 ≠ gb7));have n17_:=a0_ ((by rw [hg];exact Nat.ne_of_lt (IsS76.lt (is0_ : IsS76 w0 _ g s0_0 t11)) : g ≠ gb12));have n18_:=a0_ ((by rw [hg];exact Nat.ne_of_gt (IsS76.lt (is0_ : IsS76 w0 _ g s0_0 t11)) : gb12 ≠ g));clear HO5 HO10;clear HI0 BK1;clear BK2 BK7;clear HK HB;have HO5:=n0_;have HO10:=n1_;have HI0:=n2_;have BK1:=n3_;have BK2:=n4_;have BK7:=n5_;have HK:=n6_;have HB:=n7_;have BK12:=n8_;have GW12:=n9_;have GE12:=n10_;have NB1_12:=n11_;have NB12_1:=n12_;have NB2_12:=n13_;have NB12_2:=n14_;have NB7_12:=n15_;have NB12_7:=n16_;have NB0_12:=n17_;have NB12_0:=n18_;clear n0_ n1_ n2_ n3_ n4_ n5_ n6_ n7_ n8_ n9_ n10_ n11_ n12_ n13_ n14_ n15_ n16_ n17_ n18_;clear hb hbox hg;obtain ⟨Ao151,co151,eo151⟩:=Kd.R_slice HO10.out;subst eo151;have hnb152:=NB12_1.out;have hnc152:=NB1_12.out;have hnb153:=NB12_2.out;have hnc153:=NB2_12.out;have hnb154:=NB12_7.out;have hnc154:=NB7_12.out;have hnb155:=NB12_0.out;have hnc155:=NB0_12.out;have hcz156_0 : w150.cell? ⟨gb12,0,none⟩ = some (.slice none 0 0):=(blk_cell BK12.out 0).trans rfl;have hfz156_0:=blk_frozen BK12.out 0) | ((with_reducible refine gate_callee (f:=48) rfl ?_);refine goesL_ (some 20) rfl rfl Try.func48 (by kernel_rfl) rfl #[.pointer (some ⟨g,0,none⟩),.int .i64 (t8.length : Int)] rfl lm_ ?_;(with_reducible refine (spec_reader_pick.calls k g s0_0 t11 (t8.length : Int) t13 t14 w0 _ ?side1 ?side2 A5.out).mono ?_);(case side1=>exact is0_);(case side2=>exact hbi0_);rintro e w157 ⟨rfl,hi,hb,hk⟩;refine ⟨_,rfl,?_⟩;replace BK1:=kk_ hk BK1 NB1_0;replace BK2:=kk_ hk BK2 NB2_0;replace HO5:=a0_ (Kd.R_mono (Kd.R_keep (IsS76.apart (is0_ : IsS76 w0 _ g s0_0 t11) (by (with_reducible repeat (first | apply Kd.R_alloc | apply Kd.R_drewN | apply Kd.R_drew));exact (Kd.R_mono (Kd.R_far (p:=⟨gb12,0,none⟩) (Kd.R_types HO5.out BK12.out (by decide)) (fun _ hk=>hk.2) (.slice Ao151 t8.length co151)) (fun _ h_=>h_.1))) (by decide)) hk (fun _ h=>h.2)) (fun _ h=>h.1));replace BK7:=kk_ hk BK7 NB7_0;replace HO10:=a0_ (Kd.R_mono (Kd.R_keep (IsS76.apart (is0_ : IsS76 w0 _ g s0_0 t11) (by (with_reducible repeat (first | apply Kd.R_alloc | apply Kd.R_drewN | apply Kd.R_drew));exact (Kd.R_mono (Kd.R_far (p:=⟨gb12,0,none⟩) (Kd.R_types HO10.out BK12.out (by decide)) (fun _ hk=>hk.2) (.slice Ao151 t8.length co151)) (fun _ h_=>h_.1))) (by decide)) hk (fun _ h=>h.2)) (fun _ h=>h.1));replace BK12:=a0_ (KeepBut.blk hk (g':=gb12) (o:=.cells #[.slice Ao151 t8.length co151] 28 (0,0)) (by (with_reducible repeat (first | refine blk_drewN ?_ _ | refine blk_drew ?_ | refine blk_alloc ?_ _));refine blk_put (cs:=#[.slice none 0 0]) ?_ 0 _ rfl;(with_reducible repeat (first | refine blk_drewN ?_ _ | refine blk_drew ?_ | refine blk_alloc ?_ _));exact BK12.out) NB12_0.out (by simp));replace HK:=a0_ (KeepBut.trans (w:=w) hk_ hk (.inl rfl));replace HI0:=a0_ (hi);replace HB:=a0_ (hb);(try clear hb);(try clear hb2);(try clear hk);(try clear hi)) | ((with_reducible refine gate_callee (f:=48) rfl ?_);refine goesL_ (some 22) rfl rfl Try.func48 (by kernel_rfl) rfl #[.pointer (some ⟨g,0,none⟩),.int .i64 24] rfl lm_ ?_;(with_reducible refine (spec_reader_pick.calls k g s0_0 t14 24 t15 t16 w0 _ ?side1 ?side2 A6.out).mono ?_);(case side1=>exact is0_);(case side2=>exact hbi0_);rintro e w158 ⟨rfl,hi,hb,hk⟩;refine ⟨_,rfl,?_⟩;replace BK1:=kk_ hk BK1 NB1_0;replace BK2:=kk_ hk BK2 NB2_0;replace HO5:=a0_ (Kd.R_mono (Kd.R_keep (IsS76.apart (is0_ : IsS76 w0 _ g s0_0 t14) (rr_ HO5.out) (by decide)) hk (fun _ h=>h.2)) (fun _ h=>h.1));replace BK7:=kk_ hk BK7 NB7_0;replace HO10:=a0_ (Kd.R_mono (Kd.R_keep (IsS76.apart (is0_ : IsS76 w0 _ g s0_0 t14) (rr_ HO10.out) (by decide)) hk (fun _ h=>h.2)) (fun _ h=>h.1));replace BK12:=kk_ hk BK12 NB12_0;replace HK:=a0_ (KeepBut.trans (w:=w) hk_ hk (.inl rfl));replace HI0:=a0_ (hi);replace HB:=a0_ (hb);(try clear hb);(try clear hb2);(try clear hk);(try clear hi)))
      have n0_:=a0_ (Kd.R_drew HO5.out)
      have n1_:=a0_ (Kd.R_drew HO10.out)
      have n2_:=a0_ (blk_drew BK1.out)
      have n3_:=a0_ (blk_drew BK2.out)
      have n4_:=a0_ (blk_drew BK7.out)
      have n5_:=a0_ (blk_drew BK12.out)
      have n6_:=a0_ (IsS76.drew HI0.out)
      have n7_:=a0_ (keep_drew HK.out)
      have n8_:=a0_ (below_drew1 HB.out)
      clear HO5
      clear HO10
      clear BK1
      clear BK2
      clear BK7
      clear BK12
      clear HI0
      clear HK
      clear HB
      have HO5:=n0_
      have HO10:=n1_
      have BK1:=n2_
      have BK2:=n3_
      have BK7:=n4_
      have BK12:=n5_
      have HI0:=n6_
      have HK:=n7_
      have HB:=n8_
      clear n0_ n1_ n2_ n3_ n4_ n5_ n6_ n7_ n8_
      refine start_ (n:=4) (S:=fun w'=>w'.cell? ⟨gb7,0,none⟩ = some (.slice Ao144 t3.length co144) ∧ w'.cell? ⟨gb12,0,none⟩ = some (.slice Ao151 t8.length co151)) (ds:=[]) #[false,false,false,false] (by kernel_rfl) rfl rfl ⟨(blk_cell BK7.out 0).trans rfl,(blk_cell BK12.out 0).trans rfl⟩ (fun hHeld=>?_)
      generalize w158.drew = w159 at HO5 HO10 BK1 BK2 BK7 BK12 HI0 HK HB hHeld ⊢
      refine take_ (i:=0) (N:=some 65) (v:=?_) (a':=?_) #[true,false,false,false] rfl rfl (by kernel_rfl) (fun _ _ _ h=>h) (Or.inl ⟨by rfl,?_⟩) hHeld ?_ ?_
      rotate_left
      ·rintro w' ⟨s0,s1⟩
       go_simp
       with_reducible rfl
      rotate_left
      ·simp only [Act.put,s1_,s2_,s3_,i64_w,i32_w]
       rfl
      refine take_ (i:=1) (N:=some 66) (v:=?_) (a':=?_) #[true,true,false,false] rfl rfl (by kernel_rfl) (fun _ _ _ h=>h) (Or.inl ⟨by rfl,?_⟩) hHeld ?_ ?_
      rotate_left
      ·rintro w' ⟨s0,s1⟩
       go_simp
       with_reducible rfl
      rotate_left
      ·simp only [Act.put,s1_,s2_,s3_,i64_w,i32_w]
       rfl
      refine one_ (i:=2) (N:=none) #[true,true,true,false] rfl rfl (by kernel_rfl) (by decide) (fun K hK=>?_)
      have hs160 : w159.cell? ⟨gb1,0,none⟩ = some (.slice none 0 0):=(blk_cell BK1.out 0).trans rfl
      have hfs160:=blk_frozen BK1.out 0
      have hns160_1:=NB2_1.out
      have hns160_2:=NB7_1.out
      have hns160_3:=NB12_1.out
      have hms160_1:=NB1_2.out
      have hms160_2:=NB1_7.out
      have hms160_3:=NB1_12.out
      refine skip_ (w1:=?_) (by rfl) rfl ?_ ?_
      rotate_left
      ·go_simp
       rfl
      refine hK.out _ _ ⟨((cell_far (p:=⟨gb1,_,none⟩) NB7_1.out _).trans (hHeld.1)),((cell_far (p:=⟨gb1,_,none⟩) NB12_1.out _).trans (hHeld.2))⟩ (fun hHeld=>?_)
      clear hK K
      refine one_ (i:=3) (N:=none) #[true,true,true,true] rfl rfl (by kernel_rfl) (by decide) (fun K hK=>?_)
      have hs161 : w159.cell? ⟨gb2,0,none⟩ = some (.slice none 0 0):=(blk_cell BK2.out 0).trans rfl
      have hfs161:=blk_frozen BK2.out 0
      have hns161_0:=NB1_2.out
      have hns161_2:=NB7_2.out
      have hns161_3:=NB12_2.out
      have hms161_0:=NB2_1.out
      have hms161_2:=NB2_7.out
      have hms161_3:=NB2_12.out
      refine skip_ (w1:=?_) (by rfl) rfl ?_ ?_
      rotate_left
      ·go_simp
       rfl
      refine hK.out _ _ ⟨((cell_far (p:=⟨gb2,_,none⟩) NB7_2.out _).trans (hHeld.1)),((cell_far (p:=⟨gb2,_,none⟩) NB12_2.out _).trans (hHeld.2))⟩ (fun hHeld=>?_)
      clear hK K
      refine done_ (by kernel_rfl) ?_
      try go_wp2
      refine bodyPost_ret (results_cc rfl _ _ gb1 gb2 25 28 #[.slice Ao144 t3.length co144] #[.slice Ao151 t8.length co151] (0,0) (0,0) _ _ rfl (by (with_reducible repeat (first | refine blk_drewN ?_ _ | refine blk_drew ?_ | refine blk_alloc ?_ _));refine blk_far ?_ NB1_2.out _;(with_reducible repeat (first | refine blk_drewN ?_ _ | refine blk_drew ?_ | refine blk_alloc ?_ _));refine blk_put (cs:=#[.slice none 0 0]) ?_ 0 _ rfl;(with_reducible repeat (first | refine blk_drewN ?_ _ | refine blk_drew ?_ | refine blk_alloc ?_ _));exact BK1.out) Try.underlying25 rfl (by kernel_rfl) rfl (by (with_reducible repeat (first | refine blk_drewN ?_ _ | refine blk_drew ?_ | refine blk_alloc ?_ _));refine blk_put (cs:=#[.slice none 0 0]) ?_ 0 _ rfl;(with_reducible repeat (first | refine blk_drewN ?_ _ | refine blk_drew ?_ | refine blk_alloc ?_ _));refine blk_far ?_ NB2_1.out _;(with_reducible repeat (first | refine blk_drewN ?_ _ | refine blk_drew ?_ | refine blk_alloc ?_ _));exact BK2.out) Try.underlying28 rfl (by kernel_rfl)) rfl ?_
      exact ⟨_,_,by first | rfl | (simp [errW_none,errW_some] <;> rfl) | (simp [*,errW_none,errW_some] <;> rfl),by (with_reducible repeat (first | apply Kd.R_alloc | apply Kd.R_drewN | apply Kd.R_drew));exact Kd.R_mono (Kd.R_far (p:=⟨gb2,0,none⟩) (Kd.R_far (p:=⟨gb1,0,none⟩) (Kd.R_types (Kd.R_types HO5.out BK1.out (by decide)) BK2.out (by decide)) (fun _ hk=>hk.1.2) (.slice Ao144 t3.length co144)) (fun _ hk=>hk.2) (.slice Ao151 t8.length co151)) (fun _ hk=>trivial),by (with_reducible repeat (first | apply Kd.R_alloc | apply Kd.R_drewN | apply Kd.R_drew));exact Kd.R_mono (Kd.R_far (p:=⟨gb2,0,none⟩) (Kd.R_far (p:=⟨gb1,0,none⟩) (Kd.R_types (Kd.R_types HO10.out BK1.out (by decide)) BK2.out (by decide)) (fun _ hk=>hk.1.2) (.slice Ao144 t3.length co144)) (fun _ hk=>hk.2) (.slice Ao151 t8.length co151)) (fun _ hk=>trivial),is0_,hbi0_,hk_⟩
 ·rw [if_neg c4] at H
  have c4b0 : decide (0 < (t8.length : Int)) = false:=decide_eq_false c4
  have c4b1 : decide (0 < t8.length) = false:=decide_eq_false (by omega)
  clear c4
  simp only [Option.some.injEq,Prod.mk.injEq] at H
  obtain ⟨rfl,rfl,rfl⟩:=H
  go_enter Try.func40,Try.ntmps40
  try go_wp2_with (first | ((with_reducible refine gate_dst (N:=2) rfl ?_);refine box_event ?hg (N:=2) ?hd (cs:=#[.slice none 0 0]) (t:=25) ?hr ?_;(case hd=>rfl);(case hg=>rfl);(case hr=>first | (go_simp;done) | (go_simp;rfl));intro gb1 hg w162 hbox hb;have n0_:=a0_ (IsS76.below is0_ hb);have n1_:=a0_ (KeepBut.trans (w:=w) hk_ (KeepBut.of_below hb g none) (.inl rfl));have n2_:=a0_ (below_step hbi0_ hb);have n3_:=a0_ (hbox);have n4_:=a0_ ((by rw [hg];exact (keep_size (w:=w) (g:=g) (row:=none) hk_) : w.heap.size ≤ gb1));have n5_:=a0_ ((Nat.le_trans HW0.out (by rw [hg];exact (keep_size (w:=w) (g:=g) (row:=none) hk_) : w.heap.size ≤ gb1) : w0.heap.size ≤ gb1));have n6_:=a0_ ((by rw [hg];exact Nat.ne_of_lt (IsS76.lt (is0_ : IsS76 w0 _ g s0_0 s0_1)) : g ≠ gb1));have n7_:=a0_ ((by rw [hg];exact Nat.ne_of_gt (IsS76.lt (is0_ : IsS76 w0 _ g s0_0 s0_1)) : gb1 ≠ g));clear HI0 HK HB;have HI0:=n0_;have HK:=n1_;have HB:=n2_;have BK1:=n3_;have GW1:=n4_;have GE1:=n5_;have NB0_1:=n6_;have NB1_0:=n7_;clear n0_ n1_ n2_ n3_ n4_ n5_ n6_ n7_;clear hb hbox hg) | ((with_reducible refine gate_dst (N:=3) rfl ?_);refine box_event ?hg (N:=3) ?hd (cs:=#[.slice none 0 0]) (t:=28) ?hr ?_;(case hd=>rfl);(case hg=>rfl);(case hr=>first | (go_simp;done) | (go_simp;rfl));intro gb2 hg w163 hbox hb;have n0_:=a0_ (IsS76.below is0_ hb);have n1_:=kb_ BK1 hb;have n2_:=a0_ (KeepBut.trans (w:=w) hk_ (KeepBut.of_below hb g none) (.inl rfl));have n3_:=a0_ (below_step hbi0_ hb);have n4_:=a0_ (hbox);have n5_:=a0_ ((by rw [hg];exact (keep_size (w:=w) (g:=g) (row:=none) hk_) : w.heap.size ≤ gb2));have n6_:=a0_ ((Nat.le_trans HW0.out (by rw [hg];exact (keep_size (w:=w) (g:=g) (row:=none) hk_) : w.heap.size ≤ gb2) : w0.heap.size ≤ gb2));have n7_:=a0_ ((by rw [hg];exact Nat.ne_of_lt (blk_lt (bb_ BK1.out)) : gb1 ≠ gb2));have n8_:=a0_ ((by rw [hg];exact Nat.ne_of_gt (blk_lt (bb_ BK1.out)) : gb2 ≠ gb1));have n9_:=a0_ ((by rw [hg];exact Nat.ne_of_lt (IsS76.lt (is0_ : IsS76 w0 _ g s0_0 s0_1)) : g ≠ gb2));have n10_:=a0_ ((by rw [hg];exact Nat.ne_of_gt (IsS76.lt (is0_ : IsS76 w0 _ g s0_0 s0_1)) : gb2 ≠ g));clear HI0 BK1;clear HK HB;have HI0:=n0_;have BK1:=n1_;have HK:=n2_;have HB:=n3_;have BK2:=n4_;have GW2:=n5_;have GE2:=n6_;have NB1_2:=n7_;have NB2_1:=n8_;have NB0_2:=n9_;have NB2_0:=n10_;clear n0_ n1_ n2_ n3_ n4_ n5_ n6_ n7_ n8_ n9_ n10_;clear hb hbox hg) | ((with_reducible refine gate_callee (f:=66) rfl ?_);refine goesL_ (some 8) rfl rfl Try.func66 (by kernel_rfl) rfl #[.pointer (some ⟨g,0,none⟩)] rfl lm_ ?_;(with_reducible refine (spec_someTree.calls k g s0_0 s0_1 t3 t6 w0 _ ?side1 ?side2 A2.out).mono ?_);(case side1=>exact is0_);(case side2=>exact hbi0_);rintro e w164 ⟨v4,rfl,ho0,hi,hb,hk⟩;refine ⟨_,rfl,?_⟩;replace BK1:=kk_ hk BK1 NB1_0;replace BK2:=kk_ hk BK2 NB2_0;have HO5:=a0_ (Kd.R_lower ho0 (keep_size (w:=w) (g:=g) (row:=none) hk_));replace HK:=a0_ (KeepBut.trans (w:=w) hk_ hk (.inl rfl));replace HI0:=a0_ (hi);replace HB:=a0_ (hb);(try clear hb);(try clear ho0)) | ((with_reducible refine gate_dst (N:=4) rfl ?_);refine box_event ?hg (N:=4) ?hd (cs:=#[.slice none 0 0]) (t:=25) ?hr ?_;(case hd=>rfl);(case hg=>rfl);(case hr=>first | (go_simp;done) | (go_simp;rfl));intro gb7 hg w165 hbox hb;have n0_:=rb_ HO5 hb;have n1_:=a0_ (IsS76.below is0_ hb);have n2_:=kb_ BK1 hb;have n3_:=kb_ BK2 hb;have n4_:=a0_ (KeepBut.trans (w:=w) hk_ (KeepBut.of_below hb g none) (.inl rfl));have n5_:=a0_ (below_step hbi0_ hb);have n6_:=a0_ (hbox);have n7_:=a0_ ((by rw [hg];exact (keep_size (w:=w) (g:=g) (row:=none) hk_) : w.heap.size ≤ gb7));have n8_:=a0_ ((Nat.le_trans HW0.out (by rw [hg];exact (keep_size (w:=w) (g:=g) (row:=none) hk_) : w.heap.size ≤ gb7) : w0.heap.size ≤ gb7));have n9_:=a0_ ((by rw [hg];exact Nat.ne_of_lt (blk_lt (bb_ BK1.out)) : gb1 ≠ gb7));have n10_:=a0_ ((by rw [hg];exact Nat.ne_of_gt (blk_lt (bb_ BK1.out)) : gb7 ≠ gb1));have n11_:=a0_ ((by rw [hg];exact Nat.ne_of_lt (blk_lt (bb_ BK2.out)) : gb2 ≠ gb7));have n12_:=a0_ ((by rw [hg];exact Nat.ne_of_gt (blk_lt (bb_ BK2.out)) : gb7 ≠ gb2));have n13_:=a0_ ((by rw [hg];exact Nat.ne_of_lt (IsS76.lt (is0_ : IsS76 w0 _ g s0_0 t6)) : g ≠ gb7));have n14_:=a0_ ((by rw [hg];exact Nat.ne_of_gt (IsS76.lt (is0_ : IsS76 w0 _ g s0_0 t6)) : gb7 ≠ g));clear HO5 HI0;clear BK1 BK2;clear HK HB;have HO5:=n0_;have HI0:=n1_;have BK1:=n2_;have BK2:=n3_;have HK:=n4_;have HB:=n5_;have BK7:=n6_;have GW7:=n7_;have GE7:=n8_;have NB1_7:=n9_;have NB7_1:=n10_;have NB2_7:=n11_;have NB7_2:=n12_;have NB0_7:=n13_;have NB7_0:=n14_;clear n0_ n1_ n2_ n3_ n4_ n5_ n6_ n7_ n8_ n9_ n10_ n11_ n12_ n13_ n14_;clear hb hbox hg;obtain ⟨Ao166,co166,eo166⟩:=Kd.R_slice HO5.out;subst eo166;have hnb167:=NB7_1.out;have hnc167:=NB1_7.out;have hnb168:=NB7_2.out;have hnc168:=NB2_7.out;have hnb169:=NB7_0.out;have hnc169:=NB0_7.out;have hcz170_0 : w165.cell? ⟨gb7,0,none⟩ = some (.slice none 0 0):=(blk_cell BK7.out 0).trans rfl;have hfz170_0:=blk_frozen BK7.out 0) | ((with_reducible refine gate_callee (f:=67) rfl ?_);refine goesL_ (some 11) rfl rfl Try.func67 (by kernel_rfl) rfl #[.pointer (some ⟨g,0,none⟩),.agg #[.slice Ao166 t3.length co166]] rfl lm_ ?_;(with_reducible refine (spec_goodHeap.calls k g s0_0 t6 _ _ t3 t8 t11 w0 _ ?side1 ?side2 ?side3 ?side4 A3.out).mono ?_);(case side1=>exact is0_);(case side2=>exact hbi0_);(case side3=>exact Kd.C_foot_own (IsS76.apart (is0_ : IsS76 w0 _ g s0_0 t6) (by (with_reducible repeat (first | apply Kd.R_alloc | apply Kd.R_drewN | apply Kd.R_drew));exact (Kd.R_mono (Kd.R_far (p:=⟨gb7,0,none⟩) (Kd.R_types HO5.out BK7.out (by decide)) (fun _ hk=>hk.2) (.slice Ao166 t3.length co166)) (fun _ h_=>h_.1))) (by decide)) (fun _ h_=>h_.2));(case side4=>exact (Kd.R_reads' HO5.out).2.1);rintro e w171 ⟨v9,rfl,ho0,hi,hb,hk⟩;refine ⟨_,rfl,?_⟩;replace BK1:=kk_ hk BK1 NB1_0;replace BK2:=kk_ hk BK2 NB2_0;replace HO5:=a0_ (Kd.R_mono (Kd.R_keep (IsS76.apart (is0_ : IsS76 w0 _ g s0_0 t6) (by (with_reducible repeat (first | apply Kd.R_alloc | apply Kd.R_drewN | apply Kd.R_drew));exact (Kd.R_mono (Kd.R_far (p:=⟨gb7,0,none⟩) (Kd.R_types HO5.out BK7.out (by decide)) (fun _ hk=>hk.2) (.slice Ao166 t3.length co166)) (fun _ h_=>h_.1))) (by decide)) hk (fun _ h=>h.2)) (fun _ h=>h.1));replace BK7:=a0_ (KeepBut.blk hk (g':=gb7) (o:=.cells #[.slice Ao166 t3.length co166] 25 (0,0)) (by (with_reducible repeat (first | refine blk_drewN ?_ _ | refine blk_drew ?_ | refine blk_alloc ?_ _));refine blk_put (cs:=#[.slice none 0 0]) ?_ 0 _ rfl;(with_reducible repeat (first | refine blk_drewN ?_ _ | refine blk_drew ?_ | refine blk_alloc ?_ _));exact BK7.out) NB7_0.out (by simp));have HO10:=a0_ (Kd.R_lower ho0 (keep_size (w:=w) (g:=g) (row:=none) hk_));replace HK:=a0_ (KeepBut.trans (w:=w) hk_ hk (.inl rfl));replace HI0:=a0_ (hi);replace HB:=a0_ (hb);(try clear hb);(try clear ho0)) | ((with_reducible refine gate_dst (N:=5) rfl ?_);refine box_event ?hg (N:=5) ?hd (cs:=#[.slice none 0 0]) (t:=28) ?hr ?_;(case hd=>rfl);(case hg=>rfl);(case hr=>first | (go_simp;done) | (go_simp;rfl));intro gb12 hg w172 hbox hb;have n0_:=rb_ HO5 hb;have n1_:=rb_ HO10 hb;have n2_:=a0_ (IsS76.below is0_ hb);have n3_:=kb_ BK1 hb;have n4_:=kb_ BK2 hb;have n5_:=kb_ BK7 hb;have n6_:=a0_ (KeepBut.trans (w:=w) hk_ (KeepBut.of_below hb g none) (.inl rfl));have n7_:=a0_ (below_step hbi0_ hb);have n8_:=a0_ (hbox);have n9_:=a0_ ((by rw [hg];exact (keep_size (w:=w) (g:=g) (row:=none) hk_) : w.heap.size ≤ gb12));have n10_:=a0_ ((Nat.le_trans HW0.out (by rw [hg];exact (keep_size (w:=w) (g:=g) (row:=none) hk_) : w.heap.size ≤ gb12) : w0.heap.size ≤ gb12));have n11_:=a0_ ((by rw [hg];exact Nat.ne_of_lt (blk_lt (bb_ BK1.out)) : gb1 ≠ gb12));have n12_:=a0_ ((by rw [hg];exact Nat.ne_of_gt (blk_lt (bb_ BK1.out)) : gb12 ≠ gb1));have n13_:=a0_ ((by rw [hg];exact Nat.ne_of_lt (blk_lt (bb_ BK2.out)) : gb2 ≠ gb12));have n14_:=a0_ ((by rw [hg];exact Nat.ne_of_gt (blk_lt (bb_ BK2.out)) : gb12 ≠ gb2));have n15_:=a0_ ((by rw [hg];exact Nat.ne_of_lt (blk_lt (bb_ BK7.out)) : gb7 ≠ gb12));have n16_:=a0_ ((by rw [hg];exact Nat.ne_of_gt (blk_lt (bb_ BK7.out)) : gb12 ≠ gb7));have n17_:=a0_ ((by rw [hg];exact Nat.ne_of_lt (IsS76.lt (is0_ : IsS76 w0 _ g s0_0 t11)) : g ≠ gb12));have n18_:=a0_ ((by rw [hg];exact Nat.ne_of_gt (IsS76.lt (is0_ : IsS76 w0 _ g s0_0 t11)) : gb12 ≠ g));clear HO5 HO10;clear HI0 BK1;clear BK2 BK7;clear HK HB;have HO5:=n0_;have HO10:=n1_;have HI0:=n2_;have BK1:=n3_;have BK2:=n4_;have BK7:=n5_;have HK:=n6_;have HB:=n7_;have BK12:=n8_;have GW12:=n9_;have GE12:=n10_;have NB1_12:=n11_;have NB12_1:=n12_;have NB2_12:=n13_;have NB12_2:=n14_;have NB7_12:=n15_;have NB12_7:=n16_;have NB0_12:=n17_;have NB12_0:=n18_;clear n0_ n1_ n2_ n3_ n4_ n5_ n6_ n7_ n8_ n9_ n10_ n11_ n12_ n13_ n14_ n15_ n16_ n17_ n18_;clear hb hbox hg;obtain ⟨Ao173,co173,eo173⟩:=Kd.R_slice HO10.out;subst eo173;have hnb174:=NB12_1.out;have hnc174:=NB1_12.out;have hnb175:=NB12_2.out;have hnc175:=NB2_12.out;have hnb176:=NB12_7.out;have hnc176:=NB7_12.out;have hnb177:=NB12_0.out;have hnc177:=NB0_12.out;have hcz178_0 : w172.cell? ⟨gb12,0,none⟩ = some (.slice none 0 0):=(blk_cell BK12.out 0).trans rfl;have hfz178_0:=blk_frozen BK12.out 0))
  have n0_ : Aside0 (Kd.R k87 87 (w172.setCell ⟨gb12,0,none⟩ (.slice Ao173 t8.length co173)) w.heap.size (fun _=>True) (.slice Ao166 t3.length co166) t3):=⟨by (with_reducible repeat (first | apply Kd.R_alloc | apply Kd.R_drewN | apply Kd.R_drew));exact Kd.R_mono (Kd.R_far (p:=⟨gb12,0,none⟩) (Kd.R_types HO5.out BK12.out (by decide)) (fun _ hk=>hk.2) (.slice Ao173 t8.length co173)) (fun _ hk=>trivial)⟩
  have n1_ : Aside0 (Kd.R k43 43 (w172.setCell ⟨gb12,0,none⟩ (.slice Ao173 t8.length co173)) w.heap.size (fun _=>True) (.slice Ao173 t8.length co173) t8):=⟨by (with_reducible repeat (first | apply Kd.R_alloc | apply Kd.R_drewN | apply Kd.R_drew));exact Kd.R_mono (Kd.R_far (p:=⟨gb12,0,none⟩) (Kd.R_types HO10.out BK12.out (by decide)) (fun _ hk=>hk.2) (.slice Ao173 t8.length co173)) (fun _ hk=>trivial)⟩
  have n2_ : Aside0 ((w172.setCell ⟨gb12,0,none⟩ (.slice Ao173 t8.length co173)).heap[gb1]? = some (.cells #[.slice none 0 0] 25 (0,0))):=⟨by (with_reducible repeat (first | refine blk_drewN ?_ _ | refine blk_drew ?_ | refine blk_alloc ?_ _));refine blk_far ?_ NB1_12.out _;(with_reducible repeat (first | refine blk_drewN ?_ _ | refine blk_drew ?_ | refine blk_alloc ?_ _));exact BK1.out⟩
  have n3_ : Aside0 ((w172.setCell ⟨gb12,0,none⟩ (.slice Ao173 t8.length co173)).heap[gb2]? = some (.cells #[.slice none 0 0] 28 (0,0))):=⟨by (with_reducible repeat (first | refine blk_drewN ?_ _ | refine blk_drew ?_ | refine blk_alloc ?_ _));refine blk_far ?_ NB2_12.out _;(with_reducible repeat (first | refine blk_drewN ?_ _ | refine blk_drew ?_ | refine blk_alloc ?_ _));exact BK2.out⟩
  have n4_ : Aside0 ((w172.setCell ⟨gb12,0,none⟩ (.slice Ao173 t8.length co173)).heap[gb7]? = some (.cells #[.slice Ao166 t3.length co166] 25 (0,0))):=⟨by (with_reducible repeat (first | refine blk_drewN ?_ _ | refine blk_drew ?_ | refine blk_alloc ?_ _));refine blk_far ?_ NB7_12.out _;(with_reducible repeat (first | refine blk_drewN ?_ _ | refine blk_drew ?_ | refine blk_alloc ?_ _));exact BK7.out⟩
  have n5_ : Aside0 ((w172.setCell ⟨gb12,0,none⟩ (.slice Ao173 t8.length co173)).heap[gb12]? = some (.cells #[.slice Ao173 t8.length co173] 28 (0,0))):=⟨by (with_reducible repeat (first | refine blk_drewN ?_ _ | refine blk_drew ?_ | refine blk_alloc ?_ _));refine blk_put (cs:=#[.slice none 0 0]) ?_ 0 _ rfl;(with_reducible repeat (first | refine blk_drewN ?_ _ | refine blk_drew ?_ | refine blk_alloc ?_ _));exact BK12.out⟩
  have n6_ : Aside0 (IsS76 w0 (w172.setCell ⟨gb12,0,none⟩ (.slice Ao173 t8.length co173)) g s0_0 t11):=⟨is0_⟩
  have n7_ : Aside0 (KeepBut w (w172.setCell ⟨gb12,0,none⟩ (.slice Ao173 t8.length co173)) g none):=⟨hk_⟩
  have n8_ : Aside0 (Below w0.heap.size w0 (w172.setCell ⟨gb12,0,none⟩ (.slice Ao173 t8.length co173))):=⟨hbi0_⟩
  (try clear HO5)
  (try clear HO10)
  (try clear BK1)
  (try clear BK2)
  (try clear BK7)
  (try clear BK12)
  (try clear HI0)
  (try clear HK)
  (try clear HB)
  generalize (w172.setCell ⟨gb12,0,none⟩ (.slice Ao173 t8.length co173)) = w179 at n0_ n1_ n2_ n3_ n4_ n5_ n6_ n7_ n8_ ⊢
  have HO5:=n0_
  have HO10:=n1_
  have BK1:=n2_
  have BK2:=n3_
  have BK7:=n4_
  have BK12:=n5_
  have HI0:=n6_
  have HK:=n7_
  have HB:=n8_
  clear n0_ n1_ n2_ n3_ n4_ n5_ n6_ n7_ n8_
  have n0_:=a0_ (Kd.R_drew HO5.out)
  have n1_:=a0_ (Kd.R_drew HO10.out)
  have n2_:=a0_ (blk_drew BK1.out)
  have n3_:=a0_ (blk_drew BK2.out)
  have n4_:=a0_ (blk_drew BK7.out)
  have n5_:=a0_ (blk_drew BK12.out)
  have n6_:=a0_ (IsS76.drew HI0.out)
  have n7_:=a0_ (keep_drew HK.out)
  have n8_:=a0_ (below_drew1 HB.out)
  clear HO5
  clear HO10
  clear BK1
  clear BK2
  clear BK7
  clear BK12
  clear HI0
  clear HK
  clear HB
  have HO5:=n0_
  have HO10:=n1_
  have BK1:=n2_
  have BK2:=n3_
  have BK7:=n4_
  have BK12:=n5_
  have HI0:=n6_
  have HK:=n7_
  have HB:=n8_
  clear n0_ n1_ n2_ n3_ n4_ n5_ n6_ n7_ n8_
  refine start_ (n:=4) (S:=fun w'=>w'.cell? ⟨gb7,0,none⟩ = some (.slice Ao166 t3.length co166) ∧ w'.cell? ⟨gb12,0,none⟩ = some (.slice Ao173 t8.length co173)) (ds:=[]) #[false,false,false,false] (by kernel_rfl) rfl rfl ⟨(blk_cell BK7.out 0).trans rfl,(blk_cell BK12.out 0).trans rfl⟩ (fun hHeld=>?_)
  generalize w179.drew = w180 at HO5 HO10 BK1 BK2 BK7 BK12 HI0 HK HB hHeld ⊢
  refine take_ (i:=0) (N:=some 65) (v:=?_) (a':=?_) #[true,false,false,false] rfl rfl (by kernel_rfl) (fun _ _ _ h=>h) (Or.inl ⟨by rfl,?_⟩) hHeld ?_ ?_
  rotate_left
  ·rintro w' ⟨s0,s1⟩
   go_simp
   with_reducible rfl
  rotate_left
  ·simp only [Act.put,s1_,s2_,s3_,i64_w,i32_w]
   rfl
  refine take_ (i:=1) (N:=some 66) (v:=?_) (a':=?_) #[true,true,false,false] rfl rfl (by kernel_rfl) (fun _ _ _ h=>h) (Or.inl ⟨by rfl,?_⟩) hHeld ?_ ?_
  rotate_left
  ·rintro w' ⟨s0,s1⟩
   go_simp
   with_reducible rfl
  rotate_left
  ·simp only [Act.put,s1_,s2_,s3_,i64_w,i32_w]
   rfl
  refine one_ (i:=2) (N:=none) #[true,true,true,false] rfl rfl (by kernel_rfl) (by decide) (fun K hK=>?_)
  have hs181 : w180.cell? ⟨gb1,0,none⟩ = some (.slice none 0 0):=(blk_cell BK1.out 0).trans rfl
  have hfs181:=blk_frozen BK1.out 0
  have hns181_1:=NB2_1.out
  have hns181_2:=NB7_1.out
  have hns181_3:=NB12_1.out
  have hms181_1:=NB1_2.out
  have hms181_2:=NB1_7.out
  have hms181_3:=NB1_12.out
  refine skip_ (w1:=?_) (by rfl) rfl ?_ ?_
  rotate_left
  ·go_simp
   rfl
  refine hK.out _ _ ⟨((cell_far (p:=⟨gb1,_,none⟩) NB7_1.out _).trans (hHeld.1)),((cell_far (p:=⟨gb1,_,none⟩) NB12_1.out _).trans (hHeld.2))⟩ (fun hHeld=>?_)
  clear hK K
  refine one_ (i:=3) (N:=none) #[true,true,true,true] rfl rfl (by kernel_rfl) (by decide) (fun K hK=>?_)
  have hs182 : w180.cell? ⟨gb2,0,none⟩ = some (.slice none 0 0):=(blk_cell BK2.out 0).trans rfl
  have hfs182:=blk_frozen BK2.out 0
  have hns182_0:=NB1_2.out
  have hns182_2:=NB7_2.out
  have hns182_3:=NB12_2.out
  have hms182_0:=NB2_1.out
  have hms182_2:=NB2_7.out
  have hms182_3:=NB2_12.out
  refine skip_ (w1:=?_) (by rfl) rfl ?_ ?_
  rotate_left
  ·go_simp
   rfl
  refine hK.out _ _ ⟨((cell_far (p:=⟨gb2,_,none⟩) NB7_2.out _).trans (hHeld.1)),((cell_far (p:=⟨gb2,_,none⟩) NB12_2.out _).trans (hHeld.2))⟩ (fun hHeld=>?_)
  clear hK K
  refine done_ (by kernel_rfl) ?_
  try go_wp2
  refine bodyPost_ret (results_cc rfl _ _ gb1 gb2 25 28 #[.slice Ao166 t3.length co166] #[.slice Ao173 t8.length co173] (0,0) (0,0) _ _ rfl (by (with_reducible repeat (first | refine blk_drewN ?_ _ | refine blk_drew ?_ | refine blk_alloc ?_ _));refine blk_far ?_ NB1_2.out _;(with_reducible repeat (first | refine blk_drewN ?_ _ | refine blk_drew ?_ | refine blk_alloc ?_ _));refine blk_put (cs:=#[.slice none 0 0]) ?_ 0 _ rfl;(with_reducible repeat (first | refine blk_drewN ?_ _ | refine blk_drew ?_ | refine blk_alloc ?_ _));exact BK1.out) Try.underlying25 rfl (by kernel_rfl) rfl (by (with_reducible repeat (first | refine blk_drewN ?_ _ | refine blk_drew ?_ | refine blk_alloc ?_ _));refine blk_put (cs:=#[.slice none 0 0]) ?_ 0 _ rfl;(with_reducible repeat (first | refine blk_drewN ?_ _ | refine blk_drew ?_ | refine blk_alloc ?_ _));refine blk_far ?_ NB2_1.out _;(with_reducible repeat (first | refine blk_drewN ?_ _ | refine blk_drew ?_ | refine blk_alloc ?_ _));exact BK2.out) Try.underlying28 rfl (by kernel_rfl)) rfl ?_
  exact ⟨_,_,by first | rfl | (simp [errW_none,errW_some] <;> rfl) | (simp [*,errW_none,errW_some] <;> rfl),by (with_reducible repeat (first | apply Kd.R_alloc | apply Kd.R_drewN | apply Kd.R_drew));exact Kd.R_mono (Kd.R_far (p:=⟨gb2,0,none⟩) (Kd.R_far (p:=⟨gb1,0,none⟩) (Kd.R_types (Kd.R_types HO5.out BK1.out (by decide)) BK2.out (by decide)) (fun _ hk=>hk.1.2) (.slice Ao166 t3.length co166)) (fun _ hk=>hk.2) (.slice Ao173 t8.length co173)) (fun _ hk=>trivial),by (with_reducible repeat (first | apply Kd.R_alloc | apply Kd.R_drewN | apply Kd.R_drew));exact Kd.R_mono (Kd.R_far (p:=⟨gb2,0,none⟩) (Kd.R_far (p:=⟨gb1,0,none⟩) (Kd.R_types (Kd.R_types HO10.out BK1.out (by decide)) BK2.out (by decide)) (fun _ hk=>hk.1.2) (.slice Ao166 t3.length co166)) (fun _ hk=>hk.2) (.slice Ao173 t8.length co173)) (fun _ hk=>trivial),is0_,hbi0_,hk_⟩
theorem spec_someHeap_ev (b : List Int) (p : Int) (hb : byL b) (h0 : 0 ≤ p) (hp : p ≤ 1099511620000) : ∃ t h q,Ev (fun k=>spec_someHeap.f k b p) (t,h,q) ∧ p ≤ q ∧ q ≤ p + 70 ∧ t.length ≤ 8 ∧ smT t = true ∧ h.length ≤ 6:=by
 obtain ⟨t,q,ht,h1,h2,h3,h4⟩:=spec_someTree_ev b p hb h0 (by omega)
 obtain ⟨h,r,hh,r1,r2,r3⟩:=spec_goodHeap_ev b q t hb (by omega) (by omega) h3
 have hs:=smT_mk h4
 by_cases hlen : (h.length : Int) > 0
 ·obtain ⟨x,hx,x0,x1,_⟩:=spec_pick_ev b r (h.length : Int) hb (by omega) (by omega)
  have x1:=x1 (by omega)
  obtain ⟨y,hy,y0,y1,_⟩:=spec_pick_ev b (r + 1) 24 hb (by omega) (by omega)
  by_cases c0 : y = 0
  ·obtain ⟨s,hs2,_⟩:=spec_one_ev b (r + 1 + 1) [x,9,(-2)] hb (by omega) (by omega) (by simp)
   exact ⟨t,_,_,Ev.bind ht (Ev.bind hh (Ev.pos hlen (Ev.bind hx (Ev.bind hy (Ev.pos c0 (Ev.bind hs2 (Ev.pos x0 (Ev.pos x1 (Ev.const rfl))))))))),by omega,by omega,h3,hs,by rw [List.length_set];exact r3⟩
  by_cases c1 : y = 1
  ·obtain ⟨s,q2,hs2,b1,b2,_⟩:=spec_aClass_ev b (r + 1 + 1) t hb (by omega) (by omega)
   exact ⟨t,_,_,Ev.bind ht (Ev.bind hh (Ev.pos hlen (Ev.bind hx (Ev.bind hy (Ev.neg c0 (Ev.pos c1 (Ev.bind hs2 (Ev.pos x0 (Ev.pos x1 (Ev.const rfl)))))))))),by omega,by omega,h3,hs,by rw [List.length_set];exact r3⟩
  by_cases c2 : y = 2
  ·obtain ⟨s,hs2,_⟩:=spec_one_ev b (r + 1 + 1) [(-1),100] hb (by omega) (by omega) (by simp)
   exact ⟨t,_,_,Ev.bind ht (Ev.bind hh (Ev.pos hlen (Ev.bind hx (Ev.bind hy (Ev.neg c0 (Ev.neg c1 (Ev.pos c2 (Ev.bind hs2 (Ev.pos x0 (Ev.pos x1 (Ev.const rfl))))))))))),by omega,by omega,h3,hs,by rw [List.length_set];exact r3⟩
  by_cases c3 : y = 3
  ·obtain ⟨s,hs2,_⟩:=spec_one_ev b (r + 1 + 1) [x,24,0] hb (by omega) (by omega) (by simp)
   exact ⟨t,_,_,Ev.bind ht (Ev.bind hh (Ev.pos hlen (Ev.bind hx (Ev.bind hy (Ev.neg c0 (Ev.neg c1 (Ev.neg c2 (Ev.pos c3 (Ev.bind hs2 (Ev.pos x0 (Ev.pos x1 (Ev.const rfl)))))))))))),by omega,by omega,h3,hs,by rw [List.length_set];exact r3⟩
  ·exact ⟨t,h,_,Ev.bind ht (Ev.bind hh (Ev.pos hlen (Ev.bind hx (Ev.bind hy (Ev.neg c0 (Ev.neg c1 (Ev.neg c2 (Ev.neg c3 (Ev.const rfl))))))))),by omega,by omega,h3,hs,r3⟩
 ·exact ⟨t,h,r,Ev.bind ht (Ev.bind hh (Ev.neg hlen (Ev.const rfl))),by omega,by omega,h3,hs,r3⟩
end Go.Proofs.Ytmiholmfbjalfaa.P
namespace Go.Proofs.Ytmiholmfbjalfaa.P
open Go.RowKit Go.Proofs.YtmiholmfbjalfaaW.PrintWords Go.Proofs.YtmiholmfbjalfaaW.PrintLast Go.Proofs.YtmiholmfbjalfaaW.PrintMore
attribute [local go_sem] max2_int min2_int max_two min_two max_three min_three max_four min_four
set_option linter.unusedVariables false
set_option linter.unusedSimpArgs false
def spec_newReader.f (l0 : List Int) : Option (List Int × Int):=if (l0.length : Int) > 2000 then (if 2000 ≤ (l0.length : Int) then (some (l0.take 2000,0)) else (none)) else (some (l0,0))
set_option maxHeartbeats 8000000 in
set_option maxRecDepth 100000 in
theorem spec_newReader.calls (A0 : Option Addr) (c0 : Nat) (l0 : List Int) (r1 : List Int) (r2 : Int) (w0 w : World) (hB : Below w0.heap.size w0 w) (hr0 : Kd.C (Kd.int .u8) w0 A0 l0.length l0) (hc0 : l0.length ≤ c0) (h : spec_newReader.f l0 = some (r1,r2)) :
  Calls Try.prog 34 #[.slice A0 l0.length c0] w fun e w'=>∃ g_ : Nat,e = .returned (.pointer (some ⟨g_,0,none⟩)) ∧ IsS76 w0 w' g_ r1 r2 ∧ Below w0.heap.size w0 w' ∧ Below w.heap.size w w':=by
 have hu76:=Try.underlying76
 have HR0:=a0_ hr0
 have HC0:=a0_ hc0
 clear hr0 hc0
 have HBW:=a0_ (Below.refl w.heap.size w)
 have HW0:=a0_ hB.size
 have HB:=a0_ hB
 clear hB
 have H : (if (l0.length : Int) > 2000 then (if 2000 ≤ (l0.length : Int) then (some (l0.take 2000,0)) else (none)) else (some (l0,0))) = some (r1,r2):=h
 clear h
 by_cases c2 : (l0.length : Int) > 2000
 ·rw [if_pos c2] at H
  have c2b0 : decide (2000 < (l0.length : Int)) = true:=decide_eq_true c2
  have c2b1 : decide (2000 < l0.length) = true:=decide_eq_true (by omega)
  clear c2
  by_cases c3 : 2000 ≤ (l0.length : Int)
  ·rw [if_pos c3] at H
   have c3b0:=eq_true c3
   have c3b1 : decide (2000 ≤ (l0.length : Int)) = true:=decide_eq_true c3
   clear c3
   simp only [Option.some.injEq,Prod.mk.injEq] at H
   obtain ⟨rfl,rfl⟩:=H
   obtain ⟨i04,hi04,_,hsz4,_⟩:=info_parts info5
   obtain ⟨hcut4,hA4,hC4⟩:=print_take_of (P:=Try.prog) (Value.int .u8) 0 22 5 .i64 Try.underlying22 hi04 hsz4 A0 c0 l0 2000 (by omega) (of_decide_eq_true (by first | (with_reducible assumption) | assumption)) HC0.out
   have HR1:=a0_ (Kd.C_of_reads (h1:=fun _=>rfl) (hA4 _ (Kd.reads_of_C HR0.out)))
   have HC1:=a0_ hC4
   clear hA4 hC4 hi04 hsz4
   go_enter Try.func34,Try.ntmps34
   go_wp2_with (first | ((with_reducible refine gate_dst (N:=10) rfl ?_);refine box_event ?hg (N:=10) ?hd (cs:=#[.slice A0 (l0.take 2000).length c0,.int .i64 0]) (t:=76) ?hr ?_;(case hd=>rfl);(case hg=>rfl);(case hr=>first | (go_simp;done) | (go_simp;rfl));intro gb2 hg w5 hbox hb;have n0_:=a0_ (below_step HBW.out hb);have n1_:=a0_ (below_step hbw_ hb);have n2_:=a0_ (hbox);have n3_:=a0_ ((by rw [hg];exact (below_size (by repeat (first | (with_reducible first | exact HBW.out | apply below_alloc | apply pw_below_drewN | apply below_drew1) | exact HBW.out))) : w.heap.size ≤ gb2));have n4_:=a0_ ((Nat.le_trans HW0.out (by rw [hg];exact (below_size (by repeat (first | (with_reducible first | exact HBW.out | apply below_alloc | apply pw_below_drewN | apply below_drew1) | exact HBW.out))) : w.heap.size ≤ gb2) : w0.heap.size ≤ gb2));clear HBW HB;have HBW:=n0_;have HB:=n1_;have BK2:=n2_;have GW2:=n3_;have GE2:=n4_;clear n0_ n1_ n2_ n3_ n4_;clear hb hbox hg))
   go_ret
   exact ⟨_,rfl,(show IsS76 w0 _ gb2 (l0.take 2000) 0 from ⟨_,_,by (with_reducible repeat (first | refine blk_drewN ?_ _ | refine blk_drew ?_ | refine blk_alloc ?_ _));exact BK2.out,GE2.out,HR1.out⟩),hbw_,by repeat (first | (with_reducible first | exact HBW.out | apply below_alloc | apply pw_below_drewN | apply below_drew1 | refine below_set ?_ GW2.out) | exact HBW.out)⟩
  ·rw [if_neg c3] at H
   exact absurd H (by simp)
 ·rw [if_neg c2] at H
  have c2b0 : decide (2000 < (l0.length : Int)) = false:=decide_eq_false c2
  have c2b1 : decide (2000 < l0.length) = false:=decide_eq_false (by omega)
  clear c2
  simp only [Option.some.injEq,Prod.mk.injEq] at H
  obtain ⟨rfl,rfl⟩:=H
  go_enter Try.func34,Try.ntmps34
  go_wp2_with (first | ((with_reducible refine gate_dst (N:=10) rfl ?_);refine box_event ?hg (N:=10) ?hd (cs:=#[.slice A0 l0.length c0,.int .i64 0]) (t:=76) ?hr ?_;(case hd=>rfl);(case hg=>rfl);(case hr=>first | (go_simp;done) | (go_simp;rfl));intro gb3 hg w6 hbox hb;have n0_:=a0_ (below_step HBW.out hb);have n1_:=a0_ (below_step hbw_ hb);have n2_:=a0_ (hbox);have n3_:=a0_ ((by rw [hg];exact (below_size (by repeat (first | (with_reducible first | exact HBW.out | apply below_alloc | apply pw_below_drewN | apply below_drew1) | exact HBW.out))) : w.heap.size ≤ gb3));have n4_:=a0_ ((Nat.le_trans HW0.out (by rw [hg];exact (below_size (by repeat (first | (with_reducible first | exact HBW.out | apply below_alloc | apply pw_below_drewN | apply below_drew1) | exact HBW.out))) : w.heap.size ≤ gb3) : w0.heap.size ≤ gb3));clear HBW HB;have HBW:=n0_;have HB:=n1_;have BK3:=n2_;have GW3:=n3_;have GE3:=n4_;clear n0_ n1_ n2_ n3_ n4_;clear hb hbox hg))
  go_ret
  exact ⟨_,rfl,(show IsS76 w0 _ gb3 l0 0 from ⟨_,_,by (with_reducible repeat (first | refine blk_drewN ?_ _ | refine blk_drew ?_ | refine blk_alloc ?_ _));exact BK3.out,GE3.out,HR0.out⟩),hbw_,by repeat (first | (with_reducible first | exact HBW.out | apply below_alloc | apply pw_below_drewN | apply below_drew1 | refine below_set ?_ GW3.out) | exact HBW.out)⟩
theorem spec_newReader_ev (l : List Int) (hl : ∀ x ∈ l,(Lit.int .u8 x).wf = true) : ∃ b,spec_newReader.f l = some (b,0) ∧ byL b:=by
 have h8 : ∀ x ∈ l,0 ≤ x ∧ x ≤ 255:=by
  intro x hx
  have:=hl x hx
  simp [Lit.wf,IntKind.min,IntKind.max,IntKind.bits,IntKind.signed] at this
  omega
 unfold spec_newReader.f
 by_cases h : (l.length : Int) > 2000
 ·refine ⟨l.take 2000,by rw [if_pos h,if_pos (by omega)],?_,fun x hx=>h8 x (List.mem_of_mem_take hx)⟩
  rw [List.length_take]
  omega
 ·exact ⟨l,by rw [if_neg h],by omega,h8⟩
end Go.Proofs.Ytmiholmfbjalfaa.P
namespace Go.Proofs.Ytmiholmfbjalfaa.P
open Go.RowKit Go.Proofs.YtmiholmfbjalfaaW.PrintWords Go.Proofs.YtmiholmfbjalfaaW.PrintLast Go.Proofs.YtmiholmfbjalfaaW.PrintMore
attribute [local go_sem] max2_int min2_int max_two min_two max_three min_three max_four min_four
set_option linter.unusedVariables false
set_option linter.unusedSimpArgs false
def spec_DrawNewFault.f (k : Nat) (l0 : List Int) : Option ((List (S87)) × (List (S43)) × Int × Int):=(spec_newReader.f l0).bind fun bt3=>((spec_someHeap.f k bt3.1 bt3.2).bind fun bt6=>((spec_aClass.f k bt3.1 bt6.2.2 bt6.1).bind fun bt15=>((spec_reader_one.f k bt3.1 bt15.2 (([5,0,99,100] : List Int))).bind fun bt20=>(some (bt6.1,bt6.2.1,bt15.1,bt20.1)))))
theorem spec_DrawNewFault.mono : ∀ a0 k,LeO (spec_DrawNewFault.f k a0) (spec_DrawNewFault.f (k + 1) a0):=by
 intro a0 k
 unfold spec_DrawNewFault.f
 repeat' first
   | (with_reducible exact spec_aClass.mono _ _ _ _)
   | (with_reducible exact spec_reader_one.mono _ _ _ _)
   | (with_reducible exact spec_someHeap.mono _ _ _)
   | (with_reducible exact LeO.refl _)
   | (with_reducible exact LeO.none _)
   | (with_reducible refine LeO.ite ?_ ?_)
   | (with_reducible refine LeO.bind ?_ (fun _=>?_))
   | exact spec_aClass.mono _ _ _ _
   | exact spec_reader_one.mono _ _ _ _
   | exact spec_someHeap.mono _ _ _
   | exact LeO.none _
   | refine LeO.ite ?_ ?_
   | refine LeO.bind ?_ (fun _=>?_)
def spec_DrawNewFault.T3 : Bool × List (List Nat × List Nat):=(true,[([],[]),([],[]),([],[]),([],[]),([2,3],[2,3]),([],[]),([],[]),([5,6,4],[5,6]),([0,7,0],[0]),([1,8,0,1,8],[1]),([4,9,0,1,2,3,4,8,9],[4]),([7,10,0,1,2,3,4,5,6,7,8,9,10],[7])])
def spec_DrawNewFault.B3 : List Nat:=[0,0,0,0,12,0,0,124,253,511,1023,2047]
theorem spec_DrawNewFault.tab3 : rtab .any (opsOf Try.f16 3) = spec_DrawNewFault.T3:=by kernel_rfl
theorem spec_DrawNewFault.bits3 : waitsOk spec_DrawNewFault.T3.2 spec_DrawNewFault.B3 = true:=by kernel_rfl
set_option maxHeartbeats 8000000 in
set_option maxRecDepth 100000 in
theorem spec_DrawNewFault.calls (k : Nat) (A0 : Option Addr) (c0 : Nat) (l0 : List Int) (r1 : List (S87)) (r2 : List (S43)) (r3 : Int) (r4 : Int) (w : World) (hr0 : Kd.C (Kd.int .u8) w A0 l0.length l0) (hc0 : l0.length ≤ c0) (h : spec_DrawNewFault.f k l0 = some (r1,r2,r3,r4)) :
  Calls Try.prog 16 #[.slice A0 l0.length c0] w fun e w'=>∃ v0_ v1_ : Value,e = .returned (.tuple #[.agg #[v0_],.agg #[v1_],.int .i64 r3,.int .i64 r4]) ∧ Kd.R k87 87 w' w.heap.size (fun _=>True) v0_ r1 ∧ Kd.R k43 43 w' w.heap.size (fun _=>True) v1_ r2 ∧ Below w.heap.size w w':=by
 have hu25:=Try.underlying25
 have hu28:=Try.underlying28
 have HR0:=a0_ hr0
 have HC0:=a0_ hc0
 clear hr0 hc0
 have HB:=a0_ (Below.refl w.heap.size w)
 have H : ((spec_newReader.f l0).bind fun bt3=>((spec_someHeap.f k bt3.1 bt3.2).bind fun bt6=>((spec_aClass.f k bt3.1 bt6.2.2 bt6.1).bind fun bt15=>((spec_reader_one.f k bt3.1 bt15.2 (([5,0,99,100] : List Int))).bind fun bt20=>(some (bt6.1,bt6.2.1,bt15.1,bt20.1)))))) = some (r1,r2,r3,r4):=h
 clear h
 replace H:=Option.bind_eq_some_iff.mp H
 obtain ⟨⟨t3,t4⟩,A20,H⟩:=H
 try dsimp only at H
 have A2:=a0_ A20
 clear A20
 replace H:=Option.bind_eq_some_iff.mp H
 obtain ⟨⟨t6,t9,t12⟩,A30,H⟩:=H
 try dsimp only at H
 have A3:=a0_ A30
 clear A30
 replace H:=Option.bind_eq_some_iff.mp H
 obtain ⟨⟨t15,t16⟩,A40,H⟩:=H
 try dsimp only at H
 have A4:=a0_ A40
 clear A40
 obtain ⟨y17,hy17⟩ : ∃ y_ : List Int,y_ = (([5,0,99,100] : List Int)):=⟨_,rfl⟩
 replace H : ((spec_reader_one.f k t3 t16 y17).bind fun bt20=>(some (t6,t9,t15,bt20.1))) = some (r1,r2,r3,r4):=by first | (rw [hy17];with_reducible exact H) | (have H2_:=(Option.bind_some _ _).symm.trans H;rw [hy17];with_reducible exact H2_) | (have H2_:=(Option.bind_some _ _).symm.trans H;with_reducible exact H2_) | with_reducible exact H | (rw [hy17];exact H) | exact H
 have Ny17:=a0_ hy17
 clear hy17
 replace H:=Option.bind_eq_some_iff.mp H
 obtain ⟨⟨t20,t21⟩,A50,H⟩:=H
 replace H : (some (t6,t9,t15,t20)) = some (r1,r2,r3,r4):=H
 have A5:=a0_ A50
 clear A50
 simp only [Option.some.injEq,Prod.mk.injEq] at H
 obtain ⟨rfl,rfl,rfl,rfl⟩:=H
 go_enter Try.func16,Try.ntmps16
 try go_wp2_with (first | ((with_reducible refine gate_dst (N:=2) rfl ?_);refine box_event ?hg (N:=2) ?hd (cs:=#[.slice none 0 0]) (t:=25) ?hr ?_;(case hd=>rfl);(case hg=>rfl);(case hr=>first | (go_simp;done) | (go_simp;rfl));intro gb1 hg w6 hbox hb;have BK1:=a0_ (hbox);have GW1:=a0_ ((by rw [hg];exact (below_size hbw_) : w.heap.size ≤ gb1));have GE1:=a0_ ((by rw [hg];exact (below_size hbw_) : w.heap.size ≤ gb1));replace HB:=a0_ (below_step hbw_ hb);clear hb hbox hg) | ((with_reducible refine gate_dst (N:=3) rfl ?_);refine box_event ?hg (N:=3) ?hd (cs:=#[.slice none 0 0]) (t:=28) ?hr ?_;(case hd=>rfl);(case hg=>rfl);(case hr=>first | (go_simp;done) | (go_simp;rfl));intro gb2 hg w7 hbox hb;have n0_:=kb_ BK1 hb;have n1_:=a0_ (below_step hbw_ hb);have n2_:=a0_ (hbox);have n3_:=a0_ ((by rw [hg];exact (below_size hbw_) : w.heap.size ≤ gb2));have n4_:=a0_ ((by rw [hg];exact (below_size hbw_) : w.heap.size ≤ gb2));have n5_:=a0_ ((by rw [hg];exact Nat.ne_of_lt (blk_lt (bb_ BK1.out)) : gb1 ≠ gb2));have n6_:=a0_ ((by rw [hg];exact Nat.ne_of_gt (blk_lt (bb_ BK1.out)) : gb2 ≠ gb1));clear BK1 HB;have BK1:=n0_;have HB:=n1_;have BK2:=n2_;have GW2:=n3_;have GE2:=n4_;have NB1_2:=n5_;have NB2_1:=n6_;clear n0_ n1_ n2_ n3_ n4_ n5_ n6_;clear hb hbox hg) | ((with_reducible refine gate_callee (f:=34) rfl ?_);refine goesL_ (some 10) rfl rfl Try.func34 (by kernel_rfl) rfl #[.slice A0 l0.length c0] rfl lm_ ?_;(with_reducible refine (spec_newReader.calls _ _ l0 t3 t4 w _ ?side1 ?side2 ?side3 A2.out).mono ?_);(case side1=>exact hbw_);(case side2=>exact HR0.out);(case side3=>exact HC0.out);rintro e w8 ⟨g5,rfl,hi,hb,hb2⟩;refine ⟨_,rfl,?_⟩;have n0_:=a0_ (blk_below (bb_ BK1.out) hb2);have n1_:=a0_ (blk_below (bb_ BK2.out) hb2);have n2_:=a0_ (hb);have n3_:=a0_ (hi);have n4_:=a0_ (IsS76.ne_blk hi (blk_below (bb_ BK1.out) hb2) (by decide));have n5_:=a0_ (Ne.symm (IsS76.ne_blk hi (blk_below (bb_ BK1.out) hb2) (by decide)));have n6_:=a0_ (IsS76.ne_blk hi (blk_below (bb_ BK2.out) hb2) (by decide));have n7_:=a0_ (Ne.symm (IsS76.ne_blk hi (blk_below (bb_ BK2.out) hb2) (by decide)));clear BK1 BK2 HB;have BK1:=n0_;have BK2:=n1_;have HB:=n2_;have HI5:=n3_;have NB5_1:=n4_;have NB1_5:=n5_;have NB5_2:=n6_;have NB2_5:=n7_;clear n0_ n1_ n2_ n3_ n4_ n5_ n6_ n7_;(try clear hb);(try clear hb2);(try clear hk);(try clear hi)) | ((with_reducible refine gate_callee (f:=40) rfl ?_);refine goesL_ (some 13) rfl rfl Try.func40 (by kernel_rfl) rfl #[.pointer (some ⟨g5,0,none⟩)] rfl lm_ ?_;(with_reducible refine (spec_someHeap.calls k g5 t3 t4 t6 t9 t12 w _ ?side1 ?side2 A3.out).mono ?_);(case side1=>exact is5_);(case side2=>exact hbi5_);rintro e w9 ⟨v7,v10,rfl,ho0,ho1,hi,hb,hk⟩;refine ⟨_,rfl,?_⟩;replace BK1:=kk_ hk BK1 NB1_5;replace BK2:=kk_ hk BK2 NB2_5;have HO8:=a0_ (Kd.R_lower ho0 (below_size hbi5_));have HO11:=a0_ (Kd.R_lower ho1 (below_size hbi5_));replace HI5:=a0_ (hi);replace HB:=a0_ (hb);(try clear hb);(try clear ho0);(try clear ho1)) | ((with_reducible refine gate_dst (N:=7) rfl ?_);refine box_event ?hg (N:=7) ?hd (cs:=#[.slice none 0 0]) (t:=25) ?hr ?_;(case hd=>rfl);(case hg=>rfl);(case hr=>first | (go_simp;done) | (go_simp;rfl));intro gb13 hg w10 hbox hb;have n0_:=rb_ HO8 hb;have n1_:=rb_ HO11 hb;have n2_:=kb_ BK1 hb;have n3_:=kb_ BK2 hb;have n4_:=a0_ (IsS76.below is5_ hb);have n5_:=a0_ (below_step hbi5_ hb);have n6_:=a0_ (hbox);have n7_:=a0_ ((by rw [hg];exact (below_size hbi5_) : w.heap.size ≤ gb13));have n8_:=a0_ ((by rw [hg];exact (below_size hbi5_) : w.heap.size ≤ gb13));have n9_:=a0_ ((by rw [hg];exact Nat.ne_of_lt (blk_lt (bb_ BK1.out)) : gb1 ≠ gb13));have n10_:=a0_ ((by rw [hg];exact Nat.ne_of_gt (blk_lt (bb_ BK1.out)) : gb13 ≠ gb1));have n11_:=a0_ ((by rw [hg];exact Nat.ne_of_lt (blk_lt (bb_ BK2.out)) : gb2 ≠ gb13));have n12_:=a0_ ((by rw [hg];exact Nat.ne_of_gt (blk_lt (bb_ BK2.out)) : gb13 ≠ gb2));have n13_:=a0_ ((by rw [hg];exact Nat.ne_of_lt (IsS76.lt (is5_ : IsS76 w _ g5 t3 t12)) : g5 ≠ gb13));have n14_:=a0_ ((by rw [hg];exact Nat.ne_of_gt (IsS76.lt (is5_ : IsS76 w _ g5 t3 t12)) : gb13 ≠ g5));clear HO8 HO11;clear BK1 BK2;clear HI5 HB;have HO8:=n0_;have HO11:=n1_;have BK1:=n2_;have BK2:=n3_;have HI5:=n4_;have HB:=n5_;have BK13:=n6_;have GW13:=n7_;have GE13:=n8_;have NB1_13:=n9_;have NB13_1:=n10_;have NB2_13:=n11_;have NB13_2:=n12_;have NB5_13:=n13_;have NB13_5:=n14_;clear n0_ n1_ n2_ n3_ n4_ n5_ n6_ n7_ n8_ n9_ n10_ n11_ n12_ n13_ n14_;clear hb hbox hg) | ((with_reducible refine gate_dst (N:=8) rfl ?_);refine box_event ?hg (N:=8) ?hd (cs:=#[.slice none 0 0]) (t:=28) ?hr ?_;(case hd=>rfl);(case hg=>rfl);(case hr=>first | (go_simp;done) | (go_simp;rfl));intro gb14 hg w11 hbox hb;have n0_:=rb_ HO8 hb;have n1_:=rb_ HO11 hb;have n2_:=kb_ BK1 hb;have n3_:=kb_ BK2 hb;have n4_:=a0_ (IsS76.below is5_ hb);have n5_:=kb_ BK13 hb;have n6_:=a0_ (below_step hbi5_ hb);have n7_:=a0_ (hbox);have n8_:=a0_ ((by rw [hg];exact (below_size hbi5_) : w.heap.size ≤ gb14));have n9_:=a0_ ((by rw [hg];exact (below_size hbi5_) : w.heap.size ≤ gb14));have n10_:=a0_ ((by rw [hg];exact Nat.ne_of_lt (blk_lt (bb_ BK1.out)) : gb1 ≠ gb14));have n11_:=a0_ ((by rw [hg];exact Nat.ne_of_gt (blk_lt (bb_ BK1.out)) : gb14 ≠ gb1));have n12_:=a0_ ((by rw [hg];exact Nat.ne_of_lt (blk_lt (bb_ BK2.out)) : gb2 ≠ gb14));have n13_:=a0_ ((by rw [hg];exact Nat.ne_of_gt (blk_lt (bb_ BK2.out)) : gb14 ≠ gb2));have n14_:=a0_ ((by rw [hg];exact Nat.ne_of_lt (blk_lt (bb_ BK13.out)) : gb13 ≠ gb14));have n15_:=a0_ ((by rw [hg];exact Nat.ne_of_gt (blk_lt (bb_ BK13.out)) : gb14 ≠ gb13));have n16_:=a0_ ((by rw [hg];exact Nat.ne_of_lt (IsS76.lt (is5_ : IsS76 w _ g5 t3 t12)) : g5 ≠ gb14));have n17_:=a0_ ((by rw [hg];exact Nat.ne_of_gt (IsS76.lt (is5_ : IsS76 w _ g5 t3 t12)) : gb14 ≠ g5));clear HO8 HO11;clear BK1 BK2;clear HI5 BK13 HB;have HO8:=n0_;have HO11:=n1_;have BK1:=n2_;have BK2:=n3_;have HI5:=n4_;have BK13:=n5_;have HB:=n6_;have BK14:=n7_;have GW14:=n8_;have GE14:=n9_;have NB1_14:=n10_;have NB14_1:=n11_;have NB2_14:=n12_;have NB14_2:=n13_;have NB13_14:=n14_;have NB14_13:=n15_;have NB5_14:=n16_;have NB14_5:=n17_;clear n0_ n1_ n2_ n3_ n4_ n5_ n6_ n7_ n8_ n9_ n10_ n11_ n12_ n13_ n14_ n15_ n16_ n17_;clear hb hbox hg;obtain ⟨Ao12,co12,eo12⟩:=Kd.R_slice HO8.out;subst eo12;have hnb13:=NB13_1.out;have hnc13:=NB1_13.out;have hnb14:=NB13_2.out;have hnc14:=NB2_13.out;have hnb15:=NB13_14.out;have hnc15:=NB14_13.out;have hnb16:=NB13_5.out;have hnc16:=NB5_13.out;have hcz17_0 : w11.cell? ⟨gb13,0,none⟩ = some (.slice none 0 0):=(blk_cell BK13.out 0).trans rfl;have hfz17_0:=blk_frozen BK13.out 0;obtain ⟨Ao18,co18,eo18⟩:=Kd.R_slice HO11.out;subst eo18;have hnb19:=NB14_1.out;have hnc19:=NB1_14.out;have hnb20:=NB14_2.out;have hnc20:=NB2_14.out;have hnb21:=NB14_5.out;have hnc21:=NB5_14.out;have hcz22_0 : w11.cell? ⟨gb14,0,none⟩ = some (.slice none 0 0):=(blk_cell BK14.out 0).trans rfl;have hfz22_0:=blk_frozen BK14.out 0))
 have n0_ : Aside0 (Kd.R k87 87 ((w11.setCell ⟨gb13,0,none⟩ (.slice Ao12 t6.length co12)).setCell ⟨gb14,0,none⟩ (.slice Ao18 t9.length co18)) w.heap.size (fun _=>True) (.slice Ao12 t6.length co12) t6):=⟨by (with_reducible repeat (first | apply Kd.R_alloc | apply Kd.R_drewN | apply Kd.R_drew));exact Kd.R_mono (Kd.R_far (p:=⟨gb14,0,none⟩) (Kd.R_far (p:=⟨gb13,0,none⟩) (Kd.R_types (Kd.R_types HO8.out BK13.out (by decide)) BK14.out (by decide)) (fun _ hk=>hk.1.2) (.slice Ao12 t6.length co12)) (fun _ hk=>hk.2) (.slice Ao18 t9.length co18)) (fun _ hk=>trivial)⟩
 have n1_ : Aside0 (Kd.R k43 43 ((w11.setCell ⟨gb13,0,none⟩ (.slice Ao12 t6.length co12)).setCell ⟨gb14,0,none⟩ (.slice Ao18 t9.length co18)) w.heap.size (fun _=>True) (.slice Ao18 t9.length co18) t9):=⟨by (with_reducible repeat (first | apply Kd.R_alloc | apply Kd.R_drewN | apply Kd.R_drew));exact Kd.R_mono (Kd.R_far (p:=⟨gb14,0,none⟩) (Kd.R_far (p:=⟨gb13,0,none⟩) (Kd.R_types (Kd.R_types HO11.out BK13.out (by decide)) BK14.out (by decide)) (fun _ hk=>hk.1.2) (.slice Ao12 t6.length co12)) (fun _ hk=>hk.2) (.slice Ao18 t9.length co18)) (fun _ hk=>trivial)⟩
 have n2_ : Aside0 (((w11.setCell ⟨gb13,0,none⟩ (.slice Ao12 t6.length co12)).setCell ⟨gb14,0,none⟩ (.slice Ao18 t9.length co18)).heap[gb1]? = some (.cells #[.slice none 0 0] 25 (0,0))):=⟨by (with_reducible repeat (first | refine blk_drewN ?_ _ | refine blk_drew ?_ | refine blk_alloc ?_ _));refine blk_far ?_ NB1_14.out _;(with_reducible repeat (first | refine blk_drewN ?_ _ | refine blk_drew ?_ | refine blk_alloc ?_ _));refine blk_far ?_ NB1_13.out _;(with_reducible repeat (first | refine blk_drewN ?_ _ | refine blk_drew ?_ | refine blk_alloc ?_ _));exact BK1.out⟩
 have n3_ : Aside0 (((w11.setCell ⟨gb13,0,none⟩ (.slice Ao12 t6.length co12)).setCell ⟨gb14,0,none⟩ (.slice Ao18 t9.length co18)).heap[gb2]? = some (.cells #[.slice none 0 0] 28 (0,0))):=⟨by (with_reducible repeat (first | refine blk_drewN ?_ _ | refine blk_drew ?_ | refine blk_alloc ?_ _));refine blk_far ?_ NB2_14.out _;(with_reducible repeat (first | refine blk_drewN ?_ _ | refine blk_drew ?_ | refine blk_alloc ?_ _));refine blk_far ?_ NB2_13.out _;(with_reducible repeat (first | refine blk_drewN ?_ _ | refine blk_drew ?_ | refine blk_alloc ?_ _));exact BK2.out⟩
 have n4_ : Aside0 (((w11.setCell ⟨gb13,0,none⟩ (.slice Ao12 t6.length co12)).setCell ⟨gb14,0,none⟩ (.slice Ao18 t9.length co18)).heap[gb13]? = some (.cells #[.slice Ao12 t6.length co12] 25 (0,0))):=⟨by (with_reducible repeat (first | refine blk_drewN ?_ _ | refine blk_drew ?_ | refine blk_alloc ?_ _));refine blk_far ?_ NB13_14.out _;(with_reducible repeat (first | refine blk_drewN ?_ _ | refine blk_drew ?_ | refine blk_alloc ?_ _));refine blk_put (cs:=#[.slice none 0 0]) ?_ 0 _ rfl;(with_reducible repeat (first | refine blk_drewN ?_ _ | refine blk_drew ?_ | refine blk_alloc ?_ _));exact BK13.out⟩
 have n5_ : Aside0 (((w11.setCell ⟨gb13,0,none⟩ (.slice Ao12 t6.length co12)).setCell ⟨gb14,0,none⟩ (.slice Ao18 t9.length co18)).heap[gb14]? = some (.cells #[.slice Ao18 t9.length co18] 28 (0,0))):=⟨by (with_reducible repeat (first | refine blk_drewN ?_ _ | refine blk_drew ?_ | refine blk_alloc ?_ _));refine blk_put (cs:=#[.slice none 0 0]) ?_ 0 _ rfl;(with_reducible repeat (first | refine blk_drewN ?_ _ | refine blk_drew ?_ | refine blk_alloc ?_ _));refine blk_far ?_ NB14_13.out _;(with_reducible repeat (first | refine blk_drewN ?_ _ | refine blk_drew ?_ | refine blk_alloc ?_ _));exact BK14.out⟩
 have n6_ : Aside0 (IsS76 w ((w11.setCell ⟨gb13,0,none⟩ (.slice Ao12 t6.length co12)).setCell ⟨gb14,0,none⟩ (.slice Ao18 t9.length co18)) g5 t3 t12):=⟨is5_⟩
 have n7_ : Aside0 (Below w.heap.size w ((w11.setCell ⟨gb13,0,none⟩ (.slice Ao12 t6.length co12)).setCell ⟨gb14,0,none⟩ (.slice Ao18 t9.length co18))):=⟨hbi5_⟩
 (try clear HO8)
 (try clear HO11)
 (try clear BK1)
 (try clear BK2)
 (try clear BK13)
 (try clear BK14)
 (try clear HI5)
 (try clear HB)
 generalize ((w11.setCell ⟨gb13,0,none⟩ (.slice Ao12 t6.length co12)).setCell ⟨gb14,0,none⟩ (.slice Ao18 t9.length co18)) = w23 at n0_ n1_ n2_ n3_ n4_ n5_ n6_ n7_ ⊢
 have HO8:=n0_
 have HO11:=n1_
 have BK1:=n2_
 have BK2:=n3_
 have BK13:=n4_
 have BK14:=n5_
 have HI5:=n6_
 have HB:=n7_
 clear n0_ n1_ n2_ n3_ n4_ n5_ n6_ n7_
 have n0_:=a0_ (Kd.R_drew HO8.out)
 have n1_:=a0_ (Kd.R_drew HO11.out)
 have n2_:=a0_ (blk_drew BK1.out)
 have n3_:=a0_ (blk_drew BK2.out)
 have n4_:=a0_ (blk_drew BK13.out)
 have n5_:=a0_ (blk_drew BK14.out)
 have n6_:=a0_ (IsS76.drew HI5.out)
 have n7_:=a0_ (below_drew1 HB.out)
 clear HO8
 clear HO11
 clear BK1
 clear BK2
 clear BK13
 clear BK14
 clear HI5
 clear HB
 have HO8:=n0_
 have HO11:=n1_
 have BK1:=n2_
 have BK2:=n3_
 have BK13:=n4_
 have BK14:=n5_
 have HI5:=n6_
 have HB:=n7_
 clear n0_ n1_ n2_ n3_ n4_ n5_ n6_ n7_
 refine start_ (n:=12) (S:=fun w'=>True) (ds:=[]) #[false,false,false,false,false,false,false,false,false,false,false,false] (by kernel_rfl) rfl rfl trivial (fun hHeld=>?_);refine with_tabW spec_DrawNewFault.tab3 spec_DrawNewFault.bits3 (fun HT_ HW_=>?_)
 generalize w23.drew = w24 at HO8 HO11 BK1 BK2 BK13 BK14 HI5 HB hHeld ⊢
 refine pure_ (i:=2) (N:=some 18) (v:=?_) (a':=?_) #[false,false,true,false,false,false,false,false,false,false,false,false] rfl rfl (any_of HT_.out (by kernel_rfl)) (fun _ _ _ h=>h) (Or.inl ⟨by rfl,?_⟩) ?_ ?_
 rotate_left
 ·intro w'
  go_simp
  with_reducible rfl
 rotate_left
 ·simp only [Act.put,s1_,s2_,s3_,i64_w,i32_w]
  rfl
 refine pure_ (i:=5) (N:=some 21) (v:=?_) (a':=?_) #[false,false,true,false,false,true,false,false,false,false,false,false] rfl rfl (any_of HT_.out (by kernel_rfl)) (fun _ _ _ h=>h) (Or.inl ⟨by rfl,?_⟩) ?_ ?_
 rotate_left
 ·intro w'
  go_simp
  with_reducible rfl
 rotate_left
 ·simp only [Act.put,s1_,s2_,s3_,i64_w,i32_w]
  rfl
 refine inv_at [0,1,3,4,6,7,8,9,10,11] (fun a0_ b a w'=>∃ (v18 : Value),a = putSel a0_ b [(0,16,.agg #[.slice Ao12 t6.length co12]),(1,17,.agg #[.slice Ao18 t9.length co18]),(3,19,.agg #[.slice Ao12 t6.length co12]),(4,20,.int .i64 t15),(6,22,v18),(7,23,.int .i64 t20),(10,4,.int .i64 t15),(11,5,.int .i64 t20)] ∧ (Kd.R k43 43 w' w.heap.size (fun _=>True) (.slice Ao18 t9.length co18) t9) ∧ (Kd.R k87 87 w' w.heap.size (fun _=>True) (.slice Ao12 t6.length co12) t6) ∧ (b 8 = false → w'.heap[gb1]? = some (.cells #[.slice none 0 0] 25 (0,0))) ∧ (w'.heap[gb13]? = some (.cells #[.slice Ao12 t6.length co12] 25 (0,0))) ∧ (w'.heap[gb14]? = some (.cells #[.slice Ao18 t9.length co18] 28 (0,0))) ∧ (b 9 = false → w'.heap[gb2]? = some (.cells #[.slice none 0 0] 28 (0,0))) ∧ (b 4 = false → IsS76 w w' g5 t3 t12) ∧ (Below w.heap.size w w') ∧ (b 4 = true → b 7 = false → IsS76 w w' g5 t3 t16) ∧ (b 6 = true → Kd.R (Kd.int .i64) 3 w' w.heap.size (fun _=>True) v18 y17) ∧ (b 7 = true → IsS76 w w' g5 t3 t21) ∧ (b 8 = true → w'.heap[gb1]? = some (.cells #[.slice Ao12 t6.length co12] 25 (0,0))) ∧ (b 9 = true → w'.heap[gb2]? = some (.cells #[.slice Ao18 t9.length co18] 28 (0,0)))) HT_.out HW_.out (by kernel_rfl) (by kernel_rfl) ?_ ?_ ?_
 ·exact ⟨.bool false,by simp only [putSel,Bool.false_eq_true,if_false],HO11.out,HO8.out,fun _=>BK1.out,BK13.out,BK14.out,fun _=>BK2.out,fun _=>HI5.out,HB.out,fun h_=>absurd h_ (by decide),fun h_=>absurd h_ (by decide),fun h_=>absurd h_ (by decide),fun h_=>absurd h_ (by decide),fun h_=>absurd h_ (by decide)⟩
 ·skip
  clear BK1 BK13 BK14 BK2 HB HI5 HO11 HO8
  refine steps_cons ?_ ?_
  ·rintro b a w' ⟨v18,ha,Q_HO11,Q_HO8,Q_BK1,Q_BK13,Q_BK14,Q_BK2,Q_HI5,Q_HB,Q_HI5_e4,Q_HO19,Q_HI5_e7,Q_BK1_e8,Q_BK2_e9⟩ hb_ hon hoff
   refine ⟨_,rfl,fun K hK=>?_⟩
   have e7 : a.tmps[7]? = some (.pointer (some ⟨gb13,0,none⟩)):=by rw [ha];exact (putSel_off rfl).trans rfl
   replace ha:=a0_ ha
   have HO11:=a0_ Q_HO11
   have HO8:=a0_ Q_HO8
   have BK1:=a0_ (Q_BK1 (hoff 8 (by kernel_rfl)))
   have BK13:=a0_ Q_BK13
   have BK14:=a0_ Q_BK14
   have BK2:=a0_ (Q_BK2 (hoff 9 (by kernel_rfl)))
   have HB:=a0_ Q_HB
   have hc0_ : w'.cell? ⟨gb13,0,none⟩ = some (.slice Ao12 t6.length co12):=(blk_cell BK13.out 0).trans rfl
   refine value_ (w1:=w') (v:=.agg #[.slice Ao12 t6.length co12]) (by rfl) rfl ?_ ?_
   ·go_simp
    (try simp only [i64_w])
    try rfl
   refine hK.out _ _ ⟨v18,(by rw [ha.out];exact putSel_upk 0 hb_ rfl rfl rfl),Q_HO11,Q_HO8,Q_BK1,Q_BK13,Q_BK14,Q_BK2,Q_HI5,Q_HB,Q_HI5_e4,Q_HO19,Q_HI5_e7,fun h0_=>absurd ((hoff 8 (by kernel_rfl)).symm.trans h0_) (by decide),fun h0_=>absurd ((hoff 9 (by kernel_rfl)).symm.trans h0_) (by decide)⟩
  refine steps_cons ?_ ?_
  ·rintro b a w' ⟨v18,ha,Q_HO11,Q_HO8,Q_BK1,Q_BK13,Q_BK14,Q_BK2,Q_HI5,Q_HB,Q_HI5_e4,Q_HO19,Q_HI5_e7,Q_BK1_e8,Q_BK2_e9⟩ hb_ hon hoff
   refine ⟨_,rfl,fun K hK=>?_⟩
   have e8 : a.tmps[8]? = some (.pointer (some ⟨gb14,0,none⟩)):=by rw [ha];exact (putSel_off rfl).trans rfl
   replace ha:=a0_ ha
   have HO11:=a0_ Q_HO11
   have HO8:=a0_ Q_HO8
   have BK13:=a0_ Q_BK13
   have BK14:=a0_ Q_BK14
   have BK2:=a0_ (Q_BK2 (hoff 9 (by kernel_rfl)))
   have HB:=a0_ Q_HB
   have hc0_ : w'.cell? ⟨gb14,0,none⟩ = some (.slice Ao18 t9.length co18):=(blk_cell BK14.out 0).trans rfl
   refine value_ (w1:=w') (v:=.agg #[.slice Ao18 t9.length co18]) (by rfl) rfl ?_ ?_
   ·go_simp
    (try simp only [i64_w])
    try rfl
   refine hK.out _ _ ⟨v18,(by rw [ha.out];exact putSel_upk 1 hb_ rfl rfl rfl),Q_HO11,Q_HO8,Q_BK1,Q_BK13,Q_BK14,Q_BK2,Q_HI5,Q_HB,Q_HI5_e4,Q_HO19,Q_HI5_e7,Q_BK1_e8,fun h0_=>absurd ((hoff 9 (by kernel_rfl)).symm.trans h0_) (by decide)⟩
  refine steps_cons ?_ ?_
  ·rintro b a w' ⟨v18,ha,Q_HO11,Q_HO8,Q_BK1,Q_BK13,Q_BK14,Q_BK2,Q_HI5,Q_HB,Q_HI5_e4,Q_HO19,Q_HI5_e7,Q_BK1_e8,Q_BK2_e9⟩ hb_ hon hoff
   refine ⟨_,rfl,fun K hK=>?_⟩
   have e7 : a.tmps[7]? = some (.pointer (some ⟨gb13,0,none⟩)):=by rw [ha];exact (putSel_off rfl).trans rfl
   replace ha:=a0_ ha
   have HO11:=a0_ Q_HO11
   have HO8:=a0_ Q_HO8
   have BK1:=a0_ (Q_BK1 (hoff 8 (by kernel_rfl)))
   have BK13:=a0_ Q_BK13
   have BK14:=a0_ Q_BK14
   have BK2:=a0_ (Q_BK2 (hoff 9 (by kernel_rfl)))
   have HI5:=a0_ (Q_HI5 (hoff 4 (by kernel_rfl)))
   have HB:=a0_ Q_HB
   have hc0_ : w'.cell? ⟨gb13,0,none⟩ = some (.slice Ao12 t6.length co12):=(blk_cell BK13.out 0).trans rfl
   refine value_ (w1:=w') (v:=.agg #[.slice Ao12 t6.length co12]) (by rfl) rfl ?_ ?_
   ·go_simp
    (try simp only [i64_w])
    try rfl
   refine hK.out _ _ ⟨v18,(by rw [ha.out];exact putSel_upk 2 hb_ rfl rfl rfl),Q_HO11,Q_HO8,Q_BK1,Q_BK13,Q_BK14,Q_BK2,Q_HI5,Q_HB,fun h0_ _=>absurd ((hoff 4 (by kernel_rfl)).symm.trans h0_) (by decide),Q_HO19,fun h0_=>absurd ((hoff 7 (by kernel_rfl)).symm.trans h0_) (by decide),fun h0_=>absurd ((hoff 8 (by kernel_rfl)).symm.trans h0_) (by decide),fun h0_=>absurd ((hoff 9 (by kernel_rfl)).symm.trans h0_) (by decide)⟩
  refine steps_cons ?_ ?_
  ·rintro b a w' ⟨v18,ha,Q_HO11,Q_HO8,Q_BK1,Q_BK13,Q_BK14,Q_BK2,Q_HI5,Q_HB,Q_HI5_e4,Q_HO19,Q_HI5_e7,Q_BK1_e8,Q_BK2_e9⟩ hb_ hon hoff
   refine ⟨_,rfl,fun K hK=>?_⟩
   have e18 : a.tmps[18]? = some (.pointer (some ⟨g5,0,none⟩)):=by rw [ha];exact (putSel_off rfl).trans rfl
   have e19 : a.tmps[19]? = some (.agg #[.slice Ao12 t6.length co12]):=by rw [ha];exact putSel_on (e:=(3,19,.agg #[.slice Ao12 t6.length co12])) 2 rfl rfl (hon 3 (by kernel_rfl)) rfl
   replace ha:=a0_ ha
   have HO11:=a0_ Q_HO11
   have HO8:=a0_ Q_HO8
   have BK1:=a0_ (Q_BK1 (hoff 8 (by kernel_rfl)))
   have BK13:=a0_ Q_BK13
   have BK14:=a0_ Q_BK14
   have BK2:=a0_ (Q_BK2 (hoff 9 (by kernel_rfl)))
   have HI5:=a0_ (Q_HI5 hb_)
   have HB:=a0_ Q_HB
   refine goes_ Try.func41 (by kernel_rfl) rfl #[.pointer (some ⟨g5,0,none⟩),.agg #[.slice Ao12 t6.length co12]] (by rfl) rfl rfl (by first | (simp only [List.map_toArray,List.map_cons,List.map_nil,Act.eval,Array.getD_eq_getD_getElem?,Option.getD_some,e18,e19];done) | (simp only [List.map_toArray,List.map_cons,List.map_nil,Act.eval,Array.getD_eq_getD_getElem?,Option.getD_some,e18,e19];rfl)) ?_
   with_reducible refine (spec_aClass.calls k g5 t3 t12 _ _ t6 t15 t16 w _ ?side1 ?side2 ?side3 ?side4 A4.out).mono ?_
   (case side1=>exact is5_)
   (case side2=>exact hbi5_)
   (case side3=>exact Kd.C_foot_own (IsS76.apart (is5_ : IsS76 w _ g5 t3 t12) (rr_ HO8.out) (by decide)) (fun _ h_=>h_.2))
   (case side4=>exact (Kd.R_reads' HO8.out).2.1)
   rintro e w25 ⟨rfl,hi,hb,hk⟩
   refine ⟨_,rfl,?_⟩
   have n0_:=kk_ hk BK1 NB1_5
   have n1_:=kk_ hk BK2 NB2_5
   have n2_:=a0_ (Kd.R_mono (Kd.R_keep (IsS76.apart (is5_ : IsS76 w _ g5 t3 t12) (rr_ HO8.out) (by decide)) hk (fun _ h=>h.2)) (fun _ h=>h.1))
   have n3_:=a0_ (Kd.R_mono (Kd.R_keep (IsS76.apart (is5_ : IsS76 w _ g5 t3 t12) (rr_ HO11.out) (by decide)) hk (fun _ h=>h.2)) (fun _ h=>h.1))
   have n4_:=kk_ hk BK13 NB13_5
   have n5_:=kk_ hk BK14 NB14_5
   have n6_:=a0_ (hb)
   have n7_:=a0_ (hi)
   have z_HO19:=fun (h0_ : b 6 = true)=>(show Kd.R (Kd.int .i64) 3 w25 w.heap.size (fun _=>True) v18 y17 from by first | exact (Kd.R_mono (Kd.R_keep (IsS76.apart (is5_ : IsS76 w _ g5 t3 t12) (by (with_reducible repeat (first | apply Kd.R_alloc | apply Kd.R_drewN | apply Kd.R_drew));exact (Q_HO19 h0_)) (by decide)) hk (fun _ h=>h.2)) (fun _ h=>h.1)) | exact Kd.R_mono (Kd.R_mono (Kd.R_keep (IsS76.apart (is5_ : IsS76 w _ g5 t3 t12) (by (with_reducible repeat (first | apply Kd.R_alloc | apply Kd.R_drewN | apply Kd.R_drew));exact (Q_HO19 h0_)) (by decide)) hk (fun _ h=>h.2)) (fun _ h=>h.1)) (fun _ h_=>by first | trivial | exact h_ | exact h_.1))
   clear BK1
   clear BK2
   clear HO8
   clear HO11
   clear BK13
   clear BK14
   clear HB
   clear HI5
   have BK1:=n0_
   have BK2:=n1_
   have HO8:=n2_
   have HO11:=n3_
   have BK13:=n4_
   have BK14:=n5_
   have HB:=n6_
   have HI5:=n7_
   clear n0_ n1_ n2_ n3_ n4_ n5_ n6_ n7_
   (try clear hb)
   (try clear hb2)
   (try clear hk)
   (try clear hi)
   refine hK.out _ _ ⟨v18,(by rw [ha.out];exact putSel_upk 3 hb_ rfl rfl rfl),(rr_ HO11.out),(rr_ HO8.out),fun _=>(bb_ BK1.out),(bb_ BK13.out),(bb_ BK14.out),fun _=>(bb_ BK2.out),fun h0_=>absurd ((up_self b 4).symm.trans h0_) (by decide),hbi5_,fun _ _=>is5_,z_HO19,fun h0_=>absurd ((hoff 7 (by kernel_rfl)).symm.trans h0_) (by decide),fun h0_=>absurd ((hoff 8 (by kernel_rfl)).symm.trans h0_) (by decide),fun h0_=>absurd ((hoff 9 (by kernel_rfl)).symm.trans h0_) (by decide)⟩
  refine steps_cons ?_ ?_
  ·rintro b a w' ⟨v18,ha,Q_HO11,Q_HO8,Q_BK1,Q_BK13,Q_BK14,Q_BK2,Q_HI5,Q_HB,Q_HI5_e4,Q_HO19,Q_HI5_e7,Q_BK1_e8,Q_BK2_e9⟩ hb_ hon hoff
   refine ⟨_,rfl,fun K hK=>?_⟩
   replace ha:=a0_ ha
   have HO11:=a0_ Q_HO11
   have HO8:=a0_ Q_HO8
   have BK1:=a0_ (Q_BK1 (hoff 8 (by kernel_rfl)))
   have BK13:=a0_ Q_BK13
   have BK14:=a0_ Q_BK14
   have BK2:=a0_ (Q_BK2 (hoff 9 (by kernel_rfl)))
   have HB:=a0_ Q_HB
   refine Kd.R_lit_step (Kd.int .i64) _ 3 ?hg (N:=22) ?hd (xs:=([5,0,99,100] : List Int)) (inner:=[.int .i64 5,.int .i64 0,.int .i64 99,.int .i64 100]) (ok:=fun _=>True) (okp:=fun _=>True) ?hr ?hp (fun _ hk=>hk) trivial (Below.refl _ _) (Nat.le_refl _) (by simp) ?_;(case hd=>rfl);(case hg=>rfl);(case hr=>first | (go_simp;done) | (go_simp;rfl));(case hp=>exact (Reps.one (show Kd.M (Kd.int .i64) _ _ _ 5 [.int .i64 5] from rfl) (Reps.one (show Kd.M (Kd.int .i64) _ _ _ 0 [.int .i64 0] from rfl) (Reps.one (show Kd.M (Kd.int .i64) _ _ _ 99 [.int .i64 99] from rfl) (Reps.one (show Kd.M (Kd.int .i64) _ _ _ 100 [.int .i64 100] from rfl) (Reps.none _ _))))))
   intro v18 w25 ho26 hb hg_ hnew_
   clear hg_ hnew_
   (first | rw [← Ny17.out] at ho26 | (simp only [Int.reduceToNat] at ho26;rw [← Ny17.out] at ho26))
   have n0_:=rb_ HO8 hb
   have n1_:=rb_ HO11 hb
   have n2_:=a0_ (Kd.R_lower ho26 (below_size hbw_))
   have n3_:=kb_ BK1 hb
   have n4_:=kb_ BK2 hb
   have n6_:=kb_ BK13 hb
   have n7_:=kb_ BK14 hb
   have n8_:=a0_ (below_step hbw_ hb)
   have z_HI5:=fun (h0_ : b 4 = false)=>(show IsS76 w w25 g5 t3 t12 from by first | exact (IsS76.below (by repeat (first | (with_reducible first | exact (Q_HI5 h0_) | apply IsS76.alloc | apply IsS76.drewN | apply IsS76.drew | apply IsS76.set_1 | refine IsS76.far ?_ NB5_1.out _ | refine IsS76.far ?_ NB5_2.out _ | refine IsS76.far ?_ NB5_13.out _ | refine IsS76.far ?_ NB5_14.out _) | exact (Q_HI5 h0_))) hb))
   have z_HI5_e4:=fun (h0_ : b 4 = true) (h1_ : b 7 = false)=>(show IsS76 w w25 g5 t3 t16 from by first | exact (IsS76.below (by repeat (first | (with_reducible first | exact (Q_HI5_e4 h0_ h1_) | apply IsS76.alloc | apply IsS76.drewN | apply IsS76.drew | apply IsS76.set_1 | refine IsS76.far ?_ NB5_1.out _ | refine IsS76.far ?_ NB5_2.out _ | refine IsS76.far ?_ NB5_13.out _ | refine IsS76.far ?_ NB5_14.out _) | exact (Q_HI5_e4 h0_ h1_))) hb))
   clear HO8
   clear HO11
   clear BK1
   clear BK2
   clear BK13
   clear BK14
   clear HB
   have HO8:=n0_
   have HO11:=n1_
   have HO19:=n2_
   have BK1:=n3_
   have BK2:=n4_
   have BK13:=n6_
   have BK14:=n7_
   have HB:=n8_
   clear n0_ n1_ n2_ n3_ n4_ n6_ n7_ n8_
   clear hb ho26
   refine hK.out _ _ ⟨v18,(by rw [ha.out];exact putSel_upk 4 hb_ rfl rfl rfl),(rr_ HO11.out),(rr_ HO8.out),fun _=>(bb_ BK1.out),(bb_ BK13.out),(bb_ BK14.out),fun _=>(bb_ BK2.out),z_HI5,hbw_,z_HI5_e4,fun _=>(rr_ HO19.out),fun h0_=>absurd ((hoff 7 (by kernel_rfl)).symm.trans h0_) (by decide),fun h0_=>absurd ((hoff 8 (by kernel_rfl)).symm.trans h0_) (by decide),fun h0_=>absurd ((hoff 9 (by kernel_rfl)).symm.trans h0_) (by decide)⟩
  refine steps_cons ?_ ?_
  ·rintro b a w' ⟨v18,ha,Q_HO11,Q_HO8,Q_BK1,Q_BK13,Q_BK14,Q_BK2,Q_HI5,Q_HB,Q_HI5_e4,Q_HO19,Q_HI5_e7,Q_BK1_e8,Q_BK2_e9⟩ hb_ hon hoff
   refine ⟨_,rfl,fun K hK=>?_⟩
   have e21 : a.tmps[21]? = some (.pointer (some ⟨g5,0,none⟩)):=by rw [ha];exact (putSel_off rfl).trans rfl
   have e22 : a.tmps[22]? = some (v18):=by rw [ha];exact putSel_on (e:=(6,22,v18)) 4 rfl rfl (hon 6 (by kernel_rfl)) rfl
   replace ha:=a0_ ha
   have HO11:=a0_ Q_HO11
   have HO8:=a0_ Q_HO8
   have BK1:=a0_ (Q_BK1 (hoff 8 (by kernel_rfl)))
   have BK13:=a0_ Q_BK13
   have BK14:=a0_ Q_BK14
   have BK2:=a0_ (Q_BK2 (hoff 9 (by kernel_rfl)))
   have HB:=a0_ Q_HB
   have HI5:=a0_ (Q_HI5_e4 (hon 4 (by kernel_rfl)) hb_)
   have HO19:=a0_ (Q_HO19 (hon 6 (by kernel_rfl)))
   obtain ⟨Ao29,co29,eo29⟩:=Kd.R_slice HO19.out
   (first | subst eo29 | (injection eo29 with f1_ f2_ f3_;have f4_:=f1_.symm;have f5_:=f3_.symm;clear f1_ f2_ f3_;subst f4_;subst f5_))
   refine goes_ Try.func42 (by kernel_rfl) rfl #[.pointer (some ⟨g5,0,none⟩),.slice Ao29 y17.length co29] (by rfl) rfl rfl (by first | (simp only [List.map_toArray,List.map_cons,List.map_nil,Act.eval,Array.getD_eq_getD_getElem?,Option.getD_some,e21,e22];done) | (simp only [List.map_toArray,List.map_cons,List.map_nil,Act.eval,Array.getD_eq_getD_getElem?,Option.getD_some,e21,e22];rfl)) ?_
   with_reducible refine (spec_reader_one.calls k g5 t3 t16 _ _ y17 t20 t21 w _ ?side1 ?side2 ?side3 ?side4 ?side5 A5.out).mono ?_
   (case side1=>exact is5_)
   (case side2=>exact hbi5_)
   (case side3=>exact cc_ (Kd.R_reads' HO19.out).2.2)
   (case side4=>exact (Kd.R_reads' HO19.out).2.1)
   (case side5=>exact far_slice (IsS76.own_ne HI5.out HO19.out (by decide)))
   rintro e w30 ⟨rfl,hi,hb,hk⟩
   refine ⟨_,rfl,?_⟩
   have n0_:=kk_ hk BK1 NB1_5
   have n1_:=kk_ hk BK2 NB2_5
   have n2_:=a0_ (Kd.R_mono (Kd.R_keep (IsS76.apart (is5_ : IsS76 w _ g5 t3 t16) (rr_ HO8.out) (by decide)) hk (fun _ h=>h.2)) (fun _ h=>h.1))
   have n3_:=a0_ (Kd.R_mono (Kd.R_keep (IsS76.apart (is5_ : IsS76 w _ g5 t3 t16) (rr_ HO11.out) (by decide)) hk (fun _ h=>h.2)) (fun _ h=>h.1))
   have n4_:=kk_ hk BK13 NB13_5
   have n5_:=kk_ hk BK14 NB14_5
   have n6_:=a0_ (Kd.R_mono (Kd.R_keep (IsS76.apart (is5_ : IsS76 w _ g5 t3 t16) (rr_ HO19.out) (by decide)) hk (fun _ h=>h.2)) (fun _ h=>h.1))
   have n7_:=a0_ (hb)
   have n8_:=a0_ (hi)
   clear BK1
   clear BK2
   clear HO8
   clear HO11
   clear BK13
   clear BK14
   clear HO19
   clear HB
   clear HI5
   have BK1:=n0_
   have BK2:=n1_
   have HO8:=n2_
   have HO11:=n3_
   have BK13:=n4_
   have BK14:=n5_
   have HO19:=n6_
   have HB:=n7_
   have HI5:=n8_
   clear n0_ n1_ n2_ n3_ n4_ n5_ n6_ n7_ n8_
   (try clear hb)
   (try clear hb2)
   (try clear hk)
   (try clear hi)
   refine hK.out _ _ ⟨.slice Ao29 y17.length co29,(by rw [ha.out];exact putSel_upk 5 hb_ rfl rfl rfl),(rr_ HO11.out),(rr_ HO8.out),fun _=>(bb_ BK1.out),(bb_ BK13.out),(bb_ BK14.out),fun _=>(bb_ BK2.out),fun h0_=>absurd ((hon 4 (by kernel_rfl)).symm.trans h0_) (by decide),hbi5_,fun _ h1_=>absurd ((up_self b 7).symm.trans h1_) (by decide),fun _=>(rr_ HO19.out),fun _=>is5_,fun h0_=>absurd ((hoff 8 (by kernel_rfl)).symm.trans h0_) (by decide),fun h0_=>absurd ((hoff 9 (by kernel_rfl)).symm.trans h0_) (by decide)⟩
  refine steps_cons ?_ ?_
  ·rintro b a w' ⟨v18,ha,Q_HO11,Q_HO8,Q_BK1,Q_BK13,Q_BK14,Q_BK2,Q_HI5,Q_HB,Q_HI5_e4,Q_HO19,Q_HI5_e7,Q_BK1_e8,Q_BK2_e9⟩ hb_ hon hoff
   refine ⟨_,rfl,fun K hK=>?_⟩
   have e2 : a.tmps[2]? = some (.pointer (some ⟨gb1,0,none⟩)):=by rw [ha];exact (putSel_off rfl).trans rfl
   have e16 : a.tmps[16]? = some (.agg #[.slice Ao12 t6.length co12]):=by rw [ha];exact putSel_on (e:=(0,16,.agg #[.slice Ao12 t6.length co12])) 0 rfl rfl (hon 0 (by kernel_rfl)) rfl
   replace ha:=a0_ ha
   have HO11:=a0_ Q_HO11
   have HO8:=a0_ Q_HO8
   have BK1:=a0_ (Q_BK1 hb_)
   have BK13:=a0_ Q_BK13
   have BK14:=a0_ Q_BK14
   have BK2:=a0_ (Q_BK2 (hoff 9 (by kernel_rfl)))
   have HB:=a0_ Q_HB
   have HO19:=a0_ (Q_HO19 (hon 6 (by kernel_rfl)))
   have HI5:=a0_ (Q_HI5_e7 (hon 7 (by kernel_rfl)))
   have hs31 : w'.cell? ⟨gb1,0,none⟩ = some (.slice none 0 0):=(blk_cell BK1.out 0).trans rfl
   have hfs31:=blk_frozen BK1.out 0
   have hns31_1:=NB2_1.out
   have hns31_2:=NB13_1.out
   have hns31_3:=NB14_1.out
   have hms31_1:=NB1_2.out
   have hms31_2:=NB1_13.out
   have hms31_3:=NB1_14.out
   refine skip_ (w1:=?_) (by rfl) rfl ?_ ?_
   rotate_left
   ·go_simp
    rfl
   refine hK.out _ _ ⟨v18,(by rw [ha.out];exact putSel_none (v:=undef) rfl),(by (with_reducible repeat (first | apply Kd.R_alloc | apply Kd.R_drewN | apply Kd.R_drew));exact Kd.R_mono (Kd.R_far (p:=⟨gb1,0,none⟩) (Kd.R_types HO11.out BK1.out (by decide)) (fun _ hk=>hk.2) (.slice Ao12 t6.length co12)) (fun _ hk=>trivial)),(by (with_reducible repeat (first | apply Kd.R_alloc | apply Kd.R_drewN | apply Kd.R_drew));exact Kd.R_mono (Kd.R_far (p:=⟨gb1,0,none⟩) (Kd.R_types HO8.out BK1.out (by decide)) (fun _ hk=>hk.2) (.slice Ao12 t6.length co12)) (fun _ hk=>trivial)),fun h0_=>absurd ((up_self b 8).symm.trans h0_) (by decide),(bff_ BK13.out),(bff_ BK14.out),fun _=>(bff_ BK2.out),fun h0_=>absurd ((hon 4 (by kernel_rfl)).symm.trans h0_) (by decide),hbi5_,fun _ h1_=>absurd ((hon 7 (by kernel_rfl)).symm.trans h1_) (by decide),fun _=>(by (with_reducible repeat (first | apply Kd.R_alloc | apply Kd.R_drewN | apply Kd.R_drew));exact Kd.R_mono (Kd.R_far (p:=⟨gb1,0,none⟩) (Kd.R_types HO19.out BK1.out (by decide)) (fun _ hk=>hk.2) (.slice Ao12 t6.length co12)) (fun _ hk=>trivial)),fun _=>is5_,fun _=>(by (with_reducible repeat (first | refine blk_drewN ?_ _ | refine blk_drew ?_ | refine blk_alloc ?_ _));refine blk_put (cs:=#[.slice none 0 0]) ?_ 0 _ rfl;(with_reducible repeat (first | refine blk_drewN ?_ _ | refine blk_drew ?_ | refine blk_alloc ?_ _));exact BK1.out),fun h0_=>absurd ((hoff 9 (by kernel_rfl)).symm.trans h0_) (by decide)⟩
  refine steps_cons ?_ ?_
  ·rintro b a w' ⟨v18,ha,Q_HO11,Q_HO8,Q_BK1,Q_BK13,Q_BK14,Q_BK2,Q_HI5,Q_HB,Q_HI5_e4,Q_HO19,Q_HI5_e7,Q_BK1_e8,Q_BK2_e9⟩ hb_ hon hoff
   refine ⟨_,rfl,fun K hK=>?_⟩
   have e3 : a.tmps[3]? = some (.pointer (some ⟨gb2,0,none⟩)):=by rw [ha];exact (putSel_off rfl).trans rfl
   have e17 : a.tmps[17]? = some (.agg #[.slice Ao18 t9.length co18]):=by rw [ha];exact putSel_on (e:=(1,17,.agg #[.slice Ao18 t9.length co18])) 1 rfl rfl (hon 1 (by kernel_rfl)) rfl
   replace ha:=a0_ ha
   have HO11:=a0_ Q_HO11
   have HO8:=a0_ Q_HO8
   have BK13:=a0_ Q_BK13
   have BK14:=a0_ Q_BK14
   have BK2:=a0_ (Q_BK2 hb_)
   have HB:=a0_ Q_HB
   have HO19:=a0_ (Q_HO19 (hon 6 (by kernel_rfl)))
   have HI5:=a0_ (Q_HI5_e7 (hon 7 (by kernel_rfl)))
   have BK1:=a0_ (Q_BK1_e8 (hon 8 (by kernel_rfl)))
   have hs32 : w'.cell? ⟨gb2,0,none⟩ = some (.slice none 0 0):=(blk_cell BK2.out 0).trans rfl
   have hfs32:=blk_frozen BK2.out 0
   have hns32_0:=NB1_2.out
   have hns32_2:=NB13_2.out
   have hns32_3:=NB14_2.out
   have hms32_0:=NB2_1.out
   have hms32_2:=NB2_13.out
   have hms32_3:=NB2_14.out
   refine skip_ (w1:=?_) (by rfl) rfl ?_ ?_
   rotate_left
   ·go_simp
    rfl
   refine hK.out _ _ ⟨v18,(by rw [ha.out];exact putSel_none (v:=undef) rfl),(by (with_reducible repeat (first | apply Kd.R_alloc | apply Kd.R_drewN | apply Kd.R_drew));exact Kd.R_mono (Kd.R_far (p:=⟨gb2,0,none⟩) (Kd.R_types HO11.out BK2.out (by decide)) (fun _ hk=>hk.2) (.slice Ao18 t9.length co18)) (fun _ hk=>trivial)),(by (with_reducible repeat (first | apply Kd.R_alloc | apply Kd.R_drewN | apply Kd.R_drew));exact Kd.R_mono (Kd.R_far (p:=⟨gb2,0,none⟩) (Kd.R_types HO8.out BK2.out (by decide)) (fun _ hk=>hk.2) (.slice Ao18 t9.length co18)) (fun _ hk=>trivial)),fun h0_=>absurd ((hon 8 (by kernel_rfl)).symm.trans h0_) (by decide),(bff_ BK13.out),(bff_ BK14.out),fun h0_=>absurd ((up_self b 9).symm.trans h0_) (by decide),fun h0_=>absurd ((hon 4 (by kernel_rfl)).symm.trans h0_) (by decide),hbi5_,fun _ h1_=>absurd ((hon 7 (by kernel_rfl)).symm.trans h1_) (by decide),fun _=>(by (with_reducible repeat (first | apply Kd.R_alloc | apply Kd.R_drewN | apply Kd.R_drew));exact Kd.R_mono (Kd.R_far (p:=⟨gb2,0,none⟩) (Kd.R_types HO19.out BK2.out (by decide)) (fun _ hk=>hk.2) (.slice Ao18 t9.length co18)) (fun _ hk=>trivial)),fun _=>is5_,fun _=>(bff_ BK1.out),fun _=>(by (with_reducible repeat (first | refine blk_drewN ?_ _ | refine blk_drew ?_ | refine blk_alloc ?_ _));refine blk_put (cs:=#[.slice none 0 0]) ?_ 0 _ rfl;(with_reducible repeat (first | refine blk_drewN ?_ _ | refine blk_drew ?_ | refine blk_alloc ?_ _));exact BK2.out)⟩
  refine steps_cons ?_ ?_
  ·rintro b a w' ⟨v18,ha,Q_HO11,Q_HO8,Q_BK1,Q_BK13,Q_BK14,Q_BK2,Q_HI5,Q_HB,Q_HI5_e4,Q_HO19,Q_HI5_e7,Q_BK1_e8,Q_BK2_e9⟩ hb_ hon hoff
   refine ⟨_,rfl,fun K hK=>?_⟩
   have e20 : a.tmps[20]? = some (.int .i64 t15):=by rw [ha];exact putSel_on (e:=(4,20,.int .i64 t15)) 3 rfl rfl (hon 4 (by kernel_rfl)) rfl
   replace ha:=a0_ ha
   have HO11:=a0_ Q_HO11
   have HO8:=a0_ Q_HO8
   have BK13:=a0_ Q_BK13
   have BK14:=a0_ Q_BK14
   have HB:=a0_ Q_HB
   have HO19:=a0_ (Q_HO19 (hon 6 (by kernel_rfl)))
   have HI5:=a0_ (Q_HI5_e7 (hon 7 (by kernel_rfl)))
   have BK1:=a0_ (Q_BK1_e8 (hon 8 (by kernel_rfl)))
   have BK2:=a0_ (Q_BK2_e9 (hon 9 (by kernel_rfl)))
   refine value_ (w1:=w') (v:=.int .i64 t15) (by rfl) rfl ?_ ?_
   ·go_simp
    (try simp only [i64_w])
    try rfl
   refine hK.out _ _ ⟨v18,(by rw [ha.out];exact putSel_upk 6 hb_ rfl rfl rfl),Q_HO11,Q_HO8,fun h0_=>absurd ((hon 8 (by kernel_rfl)).symm.trans h0_) (by decide),Q_BK13,Q_BK14,fun h0_=>absurd ((hon 9 (by kernel_rfl)).symm.trans h0_) (by decide),fun h0_=>absurd ((hon 4 (by kernel_rfl)).symm.trans h0_) (by decide),Q_HB,fun _ h1_=>absurd ((hon 7 (by kernel_rfl)).symm.trans h1_) (by decide),Q_HO19,Q_HI5_e7,Q_BK1_e8,Q_BK2_e9⟩
  refine steps_cons ?_ ?_
  ·rintro b a w' ⟨v18,ha,Q_HO11,Q_HO8,Q_BK1,Q_BK13,Q_BK14,Q_BK2,Q_HI5,Q_HB,Q_HI5_e4,Q_HO19,Q_HI5_e7,Q_BK1_e8,Q_BK2_e9⟩ hb_ hon hoff
   refine ⟨_,rfl,fun K hK=>?_⟩
   have e23 : a.tmps[23]? = some (.int .i64 t20):=by rw [ha];exact putSel_on (e:=(7,23,.int .i64 t20)) 5 rfl rfl (hon 7 (by kernel_rfl)) rfl
   replace ha:=a0_ ha
   have HO11:=a0_ Q_HO11
   have HO8:=a0_ Q_HO8
   have BK13:=a0_ Q_BK13
   have BK14:=a0_ Q_BK14
   have HB:=a0_ Q_HB
   have HO19:=a0_ (Q_HO19 (hon 6 (by kernel_rfl)))
   have HI5:=a0_ (Q_HI5_e7 (hon 7 (by kernel_rfl)))
   have BK1:=a0_ (Q_BK1_e8 (hon 8 (by kernel_rfl)))
   have BK2:=a0_ (Q_BK2_e9 (hon 9 (by kernel_rfl)))
   refine value_ (w1:=w') (v:=.int .i64 t20) (by rfl) rfl ?_ ?_
   ·go_simp
    (try simp only [i64_w])
    try rfl
   refine hK.out _ _ ⟨v18,(by rw [ha.out];exact putSel_upk 7 hb_ rfl rfl rfl),Q_HO11,Q_HO8,fun h0_=>absurd ((hon 8 (by kernel_rfl)).symm.trans h0_) (by decide),Q_BK13,Q_BK14,fun h0_=>absurd ((hon 9 (by kernel_rfl)).symm.trans h0_) (by decide),fun h0_=>absurd ((hon 4 (by kernel_rfl)).symm.trans h0_) (by decide),Q_HB,fun _ h1_=>absurd ((hon 7 (by kernel_rfl)).symm.trans h1_) (by decide),Q_HO19,Q_HI5_e7,Q_BK1_e8,Q_BK2_e9⟩
  exact steps_nil
 rintro b a w32 hall ⟨v18,ha,Q_HO11,Q_HO8,Q_BK1,Q_BK13,Q_BK14,Q_BK2,Q_HI5,Q_HB,Q_HI5_e4,Q_HO19,Q_HI5_e7,Q_BK1_e8,Q_BK2_e9⟩
 clear BK1 BK13 BK14 BK2 HB HI5 HO11 HO8
 have hb0_:=hall 0 (by kernel_rfl)
 have hb1_:=hall 1 (by kernel_rfl)
 have hb3_:=hall 3 (by kernel_rfl)
 have hb4_:=hall 4 (by kernel_rfl)
 have hb6_:=hall 6 (by kernel_rfl)
 have hb7_:=hall 7 (by kernel_rfl)
 have hb8_:=hall 8 (by kernel_rfl)
 have hb9_:=hall 9 (by kernel_rfl)
 have hb10_:=hall 10 (by kernel_rfl)
 have hb11_:=hall 11 (by kernel_rfl)
 subst ha
 simp only [putSel,hb0_,hb1_,hb3_,hb4_,hb6_,hb7_,hb8_,hb9_,hb10_,hb11_,if_true,Act.put,s1_,s2_,s3_]
 have HO11:=a0_ Q_HO11
 clear Q_HO11
 have HO8:=a0_ Q_HO8
 clear Q_HO8
 clear Q_BK1
 have BK13:=a0_ Q_BK13
 clear Q_BK13
 have BK14:=a0_ Q_BK14
 clear Q_BK14
 clear Q_BK2
 clear Q_HI5
 have HB:=a0_ Q_HB
 clear Q_HB
 clear Q_HI5_e4
 have HO19:=a0_ (Q_HO19 hb6_)
 clear Q_HO19
 have HI5:=a0_ (Q_HI5_e7 hb7_)
 clear Q_HI5_e7
 have BK1:=a0_ (Q_BK1_e8 hb8_)
 clear Q_BK1_e8
 have BK2:=a0_ (Q_BK2_e9 hb9_)
 clear Q_BK2_e9
 clear hall hb0_ hb1_ hb3_ hb4_ hb6_ hb7_ hb8_ hb9_ hb10_ hb11_
 try go_wp2
 refine bodyPost_ret (results_list (rs:=[.cell 2 25,.cell 3 28,.tmp 4,.tmp 5]) rfl (by simp) (.cell gb1 25 #[.slice Ao12 t6.length co12] (0,0) _ rfl (bb_ BK1.out) Try.underlying25 rfl (by kernel_rfl) (.cell gb2 28 #[.slice Ao18 t9.length co18] (0,0) _ rfl (bb_ BK2.out) Try.underlying28 rfl (by kernel_rfl) (.tmp (.tmp .nil))))) rfl ?_
 exact ⟨_,_,by first | rfl | (simp [errW_none,errW_some] <;> rfl) | (simp [*,errW_none,errW_some] <;> rfl),by (with_reducible repeat (first | apply Kd.R_alloc | apply Kd.R_drewN | apply Kd.R_drew));exact HO8.out,by (with_reducible repeat (first | apply Kd.R_alloc | apply Kd.R_drewN | apply Kd.R_drew));exact HO11.out,hbi5_⟩
theorem spec_DrawNewFault_ev (l : List Int) (hl : ∀ x ∈ l,(Lit.int .u8 x).wf = true) : ∃ t h a c,Ev (fun k=>spec_DrawNewFault.f k l) (t,h,a,c) ∧ t.length ≤ 8 ∧ smT t = true ∧ h.length ≤ 6:=by
 obtain ⟨b,hn,hb⟩:=spec_newReader_ev l hl
 obtain ⟨t,h,q,he,_,_,a3,a4,a5⟩:=spec_someHeap_ev b 0 hb (by omega) (by omega)
 obtain ⟨f,r,hf,f1,f2,_⟩:=spec_aClass_ev b q t hb (by omega) (by omega)
 obtain ⟨s,hs,_⟩:=spec_one_ev b r [5,0,99,100] hb (by omega) (by omega) (by simp)
 exact ⟨t,h,f,s,Ev.bind (Ev.const hn) (Ev.bind he (Ev.bind hf (Ev.bind hs (Ev.const rfl)))),a3,a4,a5⟩
end Go.Proofs.Ytmiholmfbjalfaa.P
namespace Go.Proofs.Ytmiholmfbjalfaa.P
open Go.RowKit Go.Proofs.YtmiholmfbjalfaaW.PrintWords Go.Proofs.YtmiholmfbjalfaaW.PrintLast Go.Proofs.YtmiholmfbjalfaaW.PrintMore
attribute [local go_sem] max2_int min2_int max_two min_two max_three min_three max_four min_four
set_option linter.unusedVariables false
set_option linter.unusedSimpArgs false
def slices_Clip_Fault.f (l0 : List (S43)) : Option ((List (S43))):=if 0 ≤ (l0.length : Int) then (if (l0.length : Int) ≤ (l0.length : Int) then (some (l0.take ((l0.length : Int) : Int).toNat)) else (none)) else (none)
set_option maxHeartbeats 8000000 in
set_option maxRecDepth 100000 in
theorem slices_Clip_Fault.calls (P0_ : Nat → Prop) (u9000_ : Value) (l0 : List (S43)) (r : List (S43)) (w0 w : World) (hB : Below w0.heap.size w0 w) (ho0 : Kd.R k43 43 w w0.heap.size P0_ u9000_ l0) (h : slices_Clip_Fault.f l0 = some r) :
  Calls Try.prog 68 #[u9000_] w fun e w'=>∃ v0_ : Value,e = .returned (v0_) ∧ Kd.R k43 43 w' w0.heap.size (fun k_=>(P0_ k_ ∨ w.heap.size ≤ k_)) v0_ r ∧ Below w0.heap.size w0 w' ∧ Kept w w' (fun k_=>P0_ k_):=by
 have HO0:=a0_ (show Kd.R k43 43 w w0.heap.size (fun k_=>(P0_ k_ ∨ w.heap.size ≤ k_)) u9000_ l0 from Kd.R_mono ho0 (fun k_ hk=>(.inl hk)))
 have HK:=a0_ (Kept.refl w (fun k_=>P0_ k_))
 have HW0:=a0_ hB.size
 have HB:=a0_ hB
 clear hB
 have H : (if 0 ≤ (l0.length : Int) then (if (l0.length : Int) ≤ (l0.length : Int) then (some (l0.take ((l0.length : Int) : Int).toNat)) else (none)) else (none)) = some r:=h
 clear h
 by_cases c2 : 0 ≤ (l0.length : Int)
 ·rw [if_pos c2] at H
  have c2b0:=eq_true c2
  have c2b1 : decide (0 ≤ (l0.length : Int)) = true:=decide_eq_true c2
  clear c2
  by_cases c3 : (l0.length : Int) ≤ (l0.length : Int)
  ·rw [if_pos c3] at H
   have c3b0:=eq_true c3
   have c3b1 : decide ((l0.length : Int) ≤ (l0.length : Int)) = true:=decide_eq_true c3
   clear c3
   obtain ⟨y1,hy1⟩ : ∃ y_ : List (S43),y_ = (l0.take ((l0.length : Int) : Int).toNat):=⟨_,rfl⟩
   replace H : (some y1) = some r:=by first | (rw [hy1];with_reducible exact H) | (have H2_:=(Option.bind_some _ _).symm.trans H;rw [hy1];with_reducible exact H2_) | (have H2_:=(Option.bind_some _ _).symm.trans H;with_reducible exact H2_) | with_reducible exact H | (rw [hy1];exact H) | exact H
   have Ny1:=a0_ hy1
   clear hy1
   obtain rfl:=Option.some.inj H
   obtain ⟨Ao4,co4,eo4⟩:=Kd.R_slice HO0.out
   subst eo4
   have q5 : l0.length ≤ co4:=(Kd.R_reads' HO0.out).2.1
   have hr5:=Kd.R_clip2 HO0.out (((l0.length : Int) : Int).toNat) (by omega)
   rw [← Ny1.out] at hr5
   clear HO0
   have HO3:=a0_ hr5
   clear hr5
   go_enter Try.func68,Try.ntmps68
   go_wp2
   go_ret
   exact ⟨_,by first | rfl | (simp [errW_none,errW_some] <;> rfl) | (simp [*,errW_none,errW_some] <;> rfl),by (with_reducible repeat (first | apply Kd.R_alloc | apply Kd.R_drewN | apply Kd.R_drew));exact HO3.out,hbw_,by repeat (first | (with_reducible first | exact HK.out | apply Kept.alloc | apply Kept.drewN | apply Kept.drew) | exact HK.out)⟩
  ·rw [if_neg c3] at H
   exact absurd H (by simp)
 ·rw [if_neg c2] at H
  exact absurd H (by simp)
end Go.Proofs.Ytmiholmfbjalfaa.P
namespace Go.Proofs.Ytmiholmfbjalfaa.P
open Go.RowKit Go.Proofs.YtmiholmfbjalfaaW.PrintWords Go.Proofs.YtmiholmfbjalfaaW.PrintLast Go.Proofs.YtmiholmfbjalfaaW.PrintMore
attribute [local go_sem] max2_int min2_int max_two min_two max_three min_three max_four min_four
set_option linter.unusedVariables false
set_option linter.unusedSimpArgs false
theorem pw_eqlnil {P : Program} {t e : TypeId} (a : Option Addr) (h : P.underlying t = some (.slice e)) : ∀ n c w,(binOp .eql t (.slice a n c) (.slice none 0 0)).run P w = .ok (.bool a.isNone) w:=by
 intro n c w
 have h1 : ∀ d,(Op.equalIn (d + 1) t (.slice a n c) (.slice none 0 0)).run P w = .ok a.isNone w:=by
  intro d
  cases a <;> simp [Op.equalIn,run_underlying h]
 have h2 : (Op.equal t (.slice a n c) (.slice none 0 0)).run P w = .ok a.isNone w:=h1 9999
 simp [binOp,h2]
end Go.Proofs.Ytmiholmfbjalfaa.P
namespace Go.Proofs.Ytmiholmfbjalfaa.P
open Go.RowKit Go.Proofs.YtmiholmfbjalfaaW.PrintWords Go.Proofs.YtmiholmfbjalfaaW.PrintLast Go.Proofs.YtmiholmfbjalfaaW.PrintMore
attribute [local go_sem] max2_int min2_int max_two min_two max_three min_three max_four min_four
set_option linter.unusedVariables false
set_option linter.unusedSimpArgs false
def slices_Clone_Fault.f (l0 : List (S43)) : Option (List (S43)):=if l0.length < 3518437208883 then some l0 else none
set_option maxHeartbeats 2000000 in
set_option maxRecDepth 100000 in
theorem slices_Clone_Fault.calls (A0 : Option Addr) (c0 : Nat) (l0 : List (S43)) (r : List (S43)) (w : World) (hr0 : Kd.C k43 w A0 l0.length l0) (hc0 : l0.length ≤ c0) (h : slices_Clone_Fault.f l0 = some r) :
  Calls Try.prog 69 #[.slice A0 l0.length c0] w fun e w'=>∃ v0_ : Value,e = .returned (v0_) ∧ Kd.R k43 43 w' w.heap.size (fun _=>True) v0_ r ∧ Below w.heap.size w w':=by
 have hlm : l0.length < 3518437208883:=by
  apply Classical.byContradiction
  intro hn
  rw [slices_Clone_Fault.f,if_neg hn] at h
  cases h
 rw [slices_Clone_Fault.f,if_pos hlm] at h
 obtain rfl:=Option.some.inj h
 clear h
 have HR0:=a0_ hr0
 have HC0:=a0_ hc0
 have LM:=a0_ hlm
 clear hlm hc0
 have HB:=a0_ (Below.refl w.heap.size w)
 obtain ⟨y1,hy1⟩ : ∃ y_ : List (S43),y_ = (([] : List (S43))):=⟨_,rfl⟩
 have Ny1:=a0_ hy1
 obtain ⟨y4,hy4⟩ : ∃ y_ : List (S43),y_ = y1 ++ l0:=⟨_,rfl⟩
 have Ny4:=a0_ hy4
 have Ny5:=a0_ (show y4 = l0 by rw [hy4,hy1,List.nil_append])
 have Ny6:=a0_ (show y1.length = 0 by rw [hy1];rfl)
 clear hy1 hy4
 cases A0 with
 | none =>
  have e0 : l0.length = 0:=by
   apply Classical.byContradiction
   intro hn
   obtain ⟨ad,e,_⟩:=hr0.2.2 (by omega)
   cases e
  clear hr0
  have e1 : l0 = []:=List.length_eq_zero_iff.1 e0
  have hnl:=pw_eqlnil (P:=Try.prog) none Try.underlying26
  simp only [Option.isNone_none] at hnl
  go_enter Try.func69,Try.ntmps69
  go_wp2
  go_ret
  exact ⟨_,rfl,by rw [e1];exact Kd.R_nil _ _ _ _ _,HB.out⟩
 | some a0 =>
  clear hr0
  have hnl:=pw_eqlnil (P:=Try.prog) (some a0) Try.underlying26
  simp only [Option.isNone_some] at hnl
  go_enter Try.func69,Try.ntmps69
  go_wp2_with (first | ((with_reducible refine gate_dst (N:=5) rfl ?_);refine Kd.R_lit k43 _ 43 ?hg (N:=5) ?hd (xs:=([] : List (S43))) (inner:=[]) (ok:=fun _=>True) (okp:=fun _=>True) ?hr ?hp (fun _ hk=>hk) trivial (Below.refl _ _) (Nat.le_refl _) (by simp) ?_;(case hd=>rfl);(case hg=>rfl);(case hr=>first | (go_simp;done) | (go_simp;rfl));(case hp=>exact (Reps.none _ _));intro v2 w4 ho5 hb hg_ hnew_;clear hg_ hnew_;(first | rw [← Ny1.out] at ho5 | (simp only [Int.reduceToNat] at ho5;rw [← Ny1.out] at ho5));have HO3:=a0_ (Kd.R_lower ho5 (below_size hbw_));replace HB:=a0_ (below_step hbw_ hb);clear hb ho5) | ((with_reducible refine gate_builtin (b:=.append) (xs:=#[.tmp 5,.tmp 6]) rfl ?_);at_builtin;refine Kd.R_append_rows k43 (w0:=w) w.heap.size rfl (.tmp 5) (.tmp 6) 26 43 (.agg #[(.int .i64 0),(.int .i64 0),(.int .i64 0),(.int .i64 0),(.bool false)]) 40 rfl Try.underlying26 info43 rfl (by decide) (by omega) v2 y1 l0 _ _ _ (fun _=>True) (fun _=>False) rfl rfl ?aO ?aR (fun _ _ h=>h) (fun _ h=>h.elim) ?aF ?aB ?aS ?aL ?_;(case aR=>exact cc_ (Kd.C_below HR0.out HB.out));(case aB=>exact hbw_);(case aF=>exact (fun _ _=>trivial));(case aO=>exact (rr_ HO3.out));(case aS=>exact (below_size hbw_));(case aL=>have:=LM.out;have:=Ny6.out;omega);intro v5 w6 ho hb hg hat;rw [← Ny4.out] at ho;have HO6:=a0_ (ho);replace HB:=a0_ (hb);clear HO3;clear ho hb hg hat))
  go_ret
  exact ⟨_,rfl,by rw [← Ny5.out];exact HO6.out,HB.out⟩
end Go.Proofs.Ytmiholmfbjalfaa.P
namespace Go.Proofs.Ytmiholmfbjalfaa.P
open Go.RowKit Go.Proofs.YtmiholmfbjalfaaW.PrintWords Go.Proofs.YtmiholmfbjalfaaW.PrintLast Go.Proofs.YtmiholmfbjalfaaW.PrintMore
attribute [local go_sem] max2_int min2_int max_two min_two max_three min_three max_four min_four
set_option linter.unusedVariables false
set_option linter.unusedSimpArgs false
def impl_Heap_copied.f (l0_0 : List (S43)) : Option ((List (S43))):=(slices_Clone_Fault.f l0_0).bind fun t3=>((slices_Clip_Fault.f t3).bind fun t6=>(some t6))
set_option maxHeartbeats 8000000 in
set_option maxRecDepth 100000 in
theorem impl_Heap_copied.calls (A0_0 : Option Addr) (c0_0 : Nat) (l0_0 : List (S43)) (r : List (S43)) (w : World) (hr0_0 : Kd.C k43 w A0_0 l0_0.length l0_0) (hc0_0 : l0_0.length ≤ c0_0) (h : impl_Heap_copied.f l0_0 = some r) :
  Calls Try.prog 43 #[.agg #[.slice A0_0 l0_0.length c0_0]] w fun e w'=>∃ v0_ : Value,e = .returned (.agg #[v0_]) ∧ Kd.R k43 43 w' w.heap.size (fun _=>True) v0_ r ∧ Below w.heap.size w w':=by
 have hu28:=Try.underlying28
 have HR0_0:=a0_ hr0_0
 have HC0_0:=a0_ hc0_0
 clear hr0_0 hc0_0
 have HB:=a0_ (Below.refl w.heap.size w)
 have H : ((slices_Clone_Fault.f l0_0).bind fun t3=>((slices_Clip_Fault.f t3).bind fun t6=>(some t6))) = some r:=h
 clear h
 replace H:=Option.bind_eq_some_iff.mp H
 obtain ⟨t3,A20,H⟩:=H
 try dsimp only at H
 have A2:=a0_ A20
 clear A20
 replace H:=Option.bind_eq_some_iff.mp H
 obtain ⟨t6,A30,H⟩:=H
 replace H : (some t6) = some r:=H
 have A3:=a0_ A30
 clear A30
 obtain rfl:=Option.some.inj H
 go_enter Try.func43,Try.ntmps43
 go_wp2_with (first | ((with_reducible refine gate_dst (N:=1) rfl ?_);refine box_event ?hg (N:=1) ?hd (cs:=#[.slice A0_0 l0_0.length c0_0]) (t:=28) ?hr ?_;(case hd=>rfl);(case hg=>rfl);(case hr=>first | (go_simp;done) | (go_simp;rfl));intro gb1 hg w4 hbox hb;have BK1:=a0_ (hbox);have GW1:=a0_ ((by rw [hg];exact (below_size hbw_) : w.heap.size ≤ gb1));have GE1:=a0_ ((by rw [hg];exact (below_size hbw_) : w.heap.size ≤ gb1));replace HB:=a0_ (below_step hbw_ hb);clear hb hbox hg) | ((with_reducible refine gate_dst (N:=2) rfl ?_);refine box_event ?hg (N:=2) ?hd (cs:=#[.slice none 0 0]) (t:=28) ?hr ?_;(case hd=>rfl);(case hg=>rfl);(case hr=>first | (go_simp;done) | (go_simp;rfl));intro gb2 hg w5 hbox hb;have n0_:=kb_ BK1 hb;have n1_:=a0_ (below_step hbw_ hb);have n2_:=a0_ (hbox);have n3_:=a0_ ((by rw [hg];exact (below_size hbw_) : w.heap.size ≤ gb2));have n4_:=a0_ ((by rw [hg];exact (below_size hbw_) : w.heap.size ≤ gb2));have n5_:=a0_ ((by rw [hg];exact Nat.ne_of_lt (blk_lt (bb_ BK1.out)) : gb1 ≠ gb2));have n6_:=a0_ ((by rw [hg];exact Nat.ne_of_gt (blk_lt (bb_ BK1.out)) : gb2 ≠ gb1));clear BK1 HB;have BK1:=n0_;have HB:=n1_;have BK2:=n2_;have GW2:=n3_;have GE2:=n4_;have NB1_2:=n5_;have NB2_1:=n6_;clear n0_ n1_ n2_ n3_ n4_ n5_ n6_;clear hb hbox hg;have hnb6:=NB1_2.out;have hnc6:=NB2_1.out;have hcz7_0 : w5.cell? ⟨gb1,0,none⟩ = some (.slice A0_0 l0_0.length c0_0):=(blk_cell BK1.out 0).trans rfl;have hfz7_0:=blk_frozen BK1.out 0) | ((with_reducible refine gate_callee (f:=69) rfl ?_);refine goesL_ (some 5) rfl rfl Try.func69 (by kernel_rfl) rfl #[.slice A0_0 l0_0.length c0_0] rfl lm_ ?_;(with_reducible refine (slices_Clone_Fault.calls _ _ l0_0 t3 _ ?side1 ?side2 A2.out).mono ?_);(case side1=>exact cc_ (Kd.C_below HR0_0.out HB.out));(case side2=>exact HC0_0.out);rintro e w8 ⟨v4,rfl,ho0,hb⟩;refine ⟨_,rfl,?_⟩;have HO5:=a0_ (Kd.R_lower ho0 (below_size hbw_));replace BK1:=kb_ BK1 hb;replace BK2:=kb_ BK2 hb;replace HB:=a0_ (below_step hbw_ hb);(try clear hb);(try clear ho0);obtain ⟨Ao9,co9,eo9⟩:=Kd.R_slice HO5.out;subst eo9) | ((with_reducible refine gate_callee (f:=68) rfl ?_);refine goesL_ (some 6) rfl rfl Try.func68 (by kernel_rfl) rfl #[.slice Ao9 t3.length co9] rfl lm_ ?_;(with_reducible refine (slices_Clip_Fault.calls (fun k_=>some k_ = (.slice Ao9 t3.length co9 : Value).ownBlock) (.slice Ao9 t3.length co9) t3 t6 w _ ?side1 ?side2 A3.out).mono ?_);(case side1=>exact hbw_);(case side2=>exact Kd.R_tight rfl HO5.out);rintro e w10 ⟨v7,rfl,ho0,hb,hkp⟩;refine ⟨_,rfl,?_⟩;replace BK1:=a0_ (blk_kept (bb_ BK1.out) hkp (fun hs_=>(fun e_=>(Kd.R_ne HO5.out BK1.out (by decide)) e_) hs_));replace BK2:=a0_ (blk_kept (bb_ BK2.out) hkp (fun hs_=>(fun e_=>(Kd.R_ne HO5.out BK2.out (by decide)) e_) hs_));have HO8:=a0_ (Kd.R_mono (ok':=fun k_=>True) ho0 (fun k_ hk_=>trivial));replace HB:=a0_ (hb);clear HO5;(try clear hb);(try clear hkp);(try clear ho0);obtain ⟨Ao11,co11,eo11⟩:=Kd.R_slice HO8.out;subst eo11;have hcz12_0 : w10.cell? ⟨gb2,0,none⟩ = some (.slice none 0 0):=(blk_cell BK2.out 0).trans rfl;have hfz12_0:=blk_frozen BK2.out 0))
 refine bodyPost_ret (results_cell_row rfl _ _ gb2 28 #[.slice Ao11 t6.length co11] (0,0) _ rfl (by (with_reducible repeat (first | refine blk_drewN ?_ _ | refine blk_drew ?_ | refine blk_alloc ?_ _));refine blk_put (cs:=#[.slice none 0 0]) ?_ 0 _ rfl;(with_reducible repeat (first | refine blk_drewN ?_ _ | refine blk_drew ?_ | refine blk_alloc ?_ _));exact BK2.out) Try.underlying28 rfl (by kernel_rfl)) rfl ?_
 exact ⟨_,by first | rfl | (simp [errW_none,errW_some] <;> rfl) | (simp [*,errW_none,errW_some] <;> rfl),by (with_reducible repeat (first | apply Kd.R_alloc | apply Kd.R_drewN | apply Kd.R_drew));exact Kd.R_mono (Kd.R_far (p:=⟨gb2,0,none⟩) (Kd.R_types HO8.out BK2.out (by decide)) (fun _ hk=>hk.2) (.slice Ao11 t6.length co11)) (fun _ hk=>trivial),hbw_⟩
theorem impl_Heap_copied_ev (h : List Fau) (hl : h.length ≤ 2097152) : impl_Heap_copied.f h = some h:=by
 unfold impl_Heap_copied.f
 rw [slices_Clone_Fault.f,if_pos (by omega),Option.bind_some]
 unfold slices_Clip_Fault.f
 rw [if_pos (by omega),if_pos (by omega)]
 simp
end Go.Proofs.Ytmiholmfbjalfaa.P
namespace Go.Proofs.Ytmiholmfbjalfaa.P
open Go.RowKit Go.Proofs.YtmiholmfbjalfaaW.PrintWords Go.Proofs.YtmiholmfbjalfaaW.PrintLast Go.Proofs.YtmiholmfbjalfaaW.PrintMore
attribute [local go_sem] max2_int min2_int max_two min_two max_three min_three max_four min_four
set_option linter.unusedVariables false
set_option linter.unusedSimpArgs false
set_option maxHeartbeats 2000000 in
set_option maxRecDepth 100000 in
theorem impl_Heap_raise.callsF (B : Nat) (v : Value) (l : List Fau) (a c : Int) (w0 w : World) (hB : w.heap[B]? = some (.cells #[v] 28 (0,0))) (hr : Kd.R k43 43 w w0.heap.size (fun _=>True) v l) (hb : Below w0.heap.size w0 w) (h0 : w0.heap.size ≤ B) (hl : l.length ≤ 2097152) :
  Calls Try.prog 44 #[.pointer (some ⟨B,0,none⟩),.int .i64 a,.int .i64 c] w fun e w'=>∃ v' : Value,e = .returned (.int .i64 (l.length : Int)) ∧ w'.heap[B]? = some (.cells #[v'] 28 (0,0)) ∧ Kd.R k43 43 w' w0.heap.size (fun _=>True) v' (l ++ [⟨a,c,-1,-1,false⟩]) ∧ Below w0.heap.size w0 w' ∧ ∀ g o,w.heap[g]? = some o → g ≠ B → some g ≠ v.ownBlock → w'.heap[g]? = some o:=by
 have hu37:=Try.underlying28
 have hu79:=Try.underlying43
 have BK:=a0_ hB
 have HO:=a0_ hr
 have HB:=a0_ hb
 have H0:=a0_ h0
 have HL:=a0_ hl
 have hcz : w.cell? ⟨B,0,none⟩ = some v:=(blk_cell hB 0).trans rfl
 clear hB hr hb h0 hl
 go_enter Try.func44,Try.ntmps44
 go_wp2_with ((with_reducible refine gate_builtin (b:=.append) (xs:=#[.tmp 11,.tmp 15]) rfl ?_);at_builtin;refine Kd.R_append k43 (w0:=w0) w0.heap.size rfl (.tmp 11) (.tmp 15) 26 43 (.agg #[(.int .i64 0),(.int .i64 0),(.int .i64 0),(.int .i64 0),(.bool false)]) 40 rfl Try.underlying26 info43 rfl (by decide) (by omega) _ _ (⟨a,c,-1,-1,false⟩ : S43) [.int .i64 a,.int .i64 c,.int .i64 (-1),.int .i64 (-1),.bool false] (fun _=>True) (fun _=>False) rfl rfl (k43_mkM _ _ _ (⟨a,c,-1,-1,false⟩ : S43)) (fun _ hk=>hk.elim) (fun _ _=>trivial) HO.out HB.out (below_size HB.out) (by have:=HL.out;omega) ?_;intro v3 w3 ho hb hg3 hat;have BK3:=a0_ (blk_grown BK.out hg3 (Kd.R_ne HO.out BK.out (by decide)));have HO3:=a0_ ho;have HB3:=a0_ hb;have HG3:=a0_ hg3;obtain ⟨A3,c3,e3⟩:=Kd.R_slice ho;subst e3;clear ho hb hg3 hat hcz;have hcz : w3.cell? ⟨B,0,none⟩ = some v:=(blk_cell BK3.out 0).trans rfl;have hfz:=blk_frozen BK3.out 0;have BK4:=a0_ (blk_put BK3.out 0 (.slice A3 (l ++ [(⟨a,c,-1,-1,false⟩ : S43)]).length c3) rfl);have hcz4:=(blk_cell BK4.out 0).trans rfl)
 go_ret
 have ho:=HO3.out
 have bk:=BK4.out
 rw [List.length_append,List.length_singleton] at ho bk
 have hll:=HL.out
 refine ⟨_,?_,bk,Kd.R_set ho BK3.out (by decide) 0 _,below_set HB3.out H0.out,fun g o hg hgB hgv=>?_⟩
 ·show Ending.returned (.int .i64 (wrap64 (l.length : Int))) = _
  rw [wrap_in (by omega) (by omega)]
 ·exact (Below.heap_setCell w3 ⟨B,0,none⟩ _ g hgB).trans ((HG3.out.block g (blk_lt hg) hgv).trans hg)
end Go.Proofs.Ytmiholmfbjalfaa.P
namespace Go.Proofs.Ytmiholmfbjalfaa.P
open Go.RowKit Go.Proofs.YtmiholmfbjalfaaW.PrintWords Go.Proofs.YtmiholmfbjalfaaW.PrintLast Go.Proofs.YtmiholmfbjalfaaW.PrintMore
attribute [local go_sem] max2_int min2_int max_two min_two max_three min_three max_four min_four
set_option linter.unusedVariables false
set_option linter.unusedSimpArgs false
def impl_NewFault.f (l0_0 : List Cls) (l1_0 : List Fau) (a2 a3 : Int) : Option (List Fau × Int × Bool):=if smT l0_0 = true ∧ l1_0.length ≤ 1048576 then some (newP l0_0 l1_0 a2 a3) else none
set_option maxHeartbeats 4000000 in
set_option maxRecDepth 100000 in
theorem impl_NewFault.calls (A0_0 : Option Addr) (c0_0 : Nat) (l0_0 : List (S87)) (A1_0 : Option Addr) (c1_0 : Nat) (l1_0 : List (S43)) (a2 : Int) (a3 : Int) (r1 : List (S43)) (r2 : Int) (r3 : Bool) (w : World) (hr0_0 : Kd.C k87 w A0_0 l0_0.length l0_0) (hc0_0 : l0_0.length ≤ c0_0) (hr1_0 : Kd.C k43 w A1_0 l1_0.length l1_0) (hc1_0 : l1_0.length ≤ c1_0) (h : impl_NewFault.f l0_0 l1_0 a2 a3 = some (r1,r2,r3)) :
  Calls Try.prog 17 #[.agg #[.slice A0_0 l0_0.length c0_0],.agg #[.slice A1_0 l1_0.length c1_0],.int .i64 a2,.int .i64 a3] w fun e w'=>∃ v0_ : Value,e = .returned (.tuple #[.agg #[v0_],.int .i64 r2,.bool r3]) ∧ Kd.R k43 43 w' w.heap.size (fun _=>True) v0_ r1 ∧ Below w.heap.size w w':=by
 have hu33:=Try.underlying25
 have hu37:=Try.underlying28
 have hsm : smT l0_0 = true ∧ l1_0.length ≤ 1048576:=by
  apply Classical.byContradiction
  intro hn
  rw [impl_NewFault.f,if_neg hn] at h
  cases h
 rw [impl_NewFault.f,if_pos hsm] at h
 have hR:=Option.some.inj h
 clear h
 have hlm:=hsm.2
 obtain ⟨y,hy⟩ : ∃ y : List Fau,y = l1_0 ++ [⟨a2,a3,-1,-1,false⟩]:=⟨_,rfl⟩
 have hyl : y.length ≤ 2097152:=by rw [hy,List.length_append,List.length_singleton];omega
 have NY:=a0_ hy
 have HCP:=a0_ (fun (W : World) (hb : Below w.heap.size w W)=>impl_Heap_copied.calls A1_0 c1_0 l1_0 l1_0 W (Kd.C_below hr1_0 hb) hc1_0 (impl_Heap_copied_ev l1_0 (by omega)))
 have HC2:=a0_ (fun (A : Option Addr) (c : Nat) (W : World) (hr : Kd.C k43 W A y.length y) (hc : y.length ≤ c)=>impl_Heap_copied.calls A c y y W hr hc (impl_Heap_copied_ev y hyl))
 have HV1:=a0_ (fun (W : World) (hb : Below w.heap.size w W)=>impl_ValidHeap.calls A0_0 c0_0 l0_0 A1_0 c1_0 l1_0 (vH l0_0 l1_0) W (Kd.C_below hr0_0 hb) hc0_0 (Kd.C_below hr1_0 hb) hc1_0 (impl_ValidHeap_ev l0_0 l1_0 hsm.1 (by omega)))
 have HV2:=a0_ (fun (A : Option Addr) (c : Nat) (W : World) (hb : Below w.heap.size w W) (hr : Kd.C k43 W A y.length y) (hc : y.length ≤ c)=>impl_ValidHeap.calls A0_0 c0_0 l0_0 A c y (vH l0_0 y) W (Kd.C_below hr0_0 hb) hc0_0 hr hc (impl_ValidHeap_ev l0_0 y hsm.1 hyl))
 unfold newP at hR
 rw [← hy] at hR
 have BT:=a0_ (blk_alloc (heap_old2 w (.cells #[.slice A0_0 l0_0.length c0_0] 25) (.cells #[.slice A1_0 l1_0.length c1_0] 28)) (.cells #[.slice none 0 0] 28))
 have BH:=a0_ (blk_alloc (heap_new2 w (.cells #[.slice A0_0 l0_0.length c0_0] 25) (.cells #[.slice A1_0 l1_0.length c1_0] 28)) (.cells #[.slice none 0 0] 28))
 have BZ:=a0_ (show (((w.alloc (.cells #[.slice A0_0 l0_0.length c0_0] 25)).alloc (.cells #[.slice A1_0 l1_0.length c1_0] 28)).alloc (.cells #[.slice none 0 0] 28)).heap[w.heap.size + 1 + 1]? = some (.cells #[.slice none 0 0] 28 (0,0)) by
  have:=heap_new1 ((w.alloc (.cells #[.slice A0_0 l0_0.length c0_0] 25)).alloc (.cells #[.slice A1_0 l1_0.length c1_0] 28)) (.cells #[.slice none 0 0] 28)
  simpa using this)
 have HB:=a0_ (below_alloc (below2 w (.cells #[.slice A0_0 l0_0.length c0_0] 25) (.cells #[.slice A1_0 l1_0.length c1_0] 28)) (.cells #[.slice none 0 0] 28))
 clear hr0_0 hr1_0 hsm hy hyl
 go_enter Try.func17,Try.ntmps17
 go_upto_region 1 with (fail)
 generalize ((w.alloc (.cells #[.slice A0_0 l0_0.length c0_0] 25)).alloc (.cells #[.slice A1_0 l1_0.length c1_0] 28)).alloc (.cells #[.slice none 0 0] 28) = W0 at BT BH BZ HB ⊢
 have hch:=(blk_cell BH.out 0).trans rfl
 go_upto_region 3 with (first
  | (go_at_call 43;refine (HCP.out _ HB.out).mono ?_;rintro e w4 ⟨v0,rfl,ho4,hb4⟩;obtain ⟨A4,c4,e4⟩:=Kd.R_slice ho4;subst e4;have HO4:=a0_ (Kd.R_lower ho4 (below_size HB.out));replace BT:=a0_ (blk_keptB BT.out hb4);replace BH:=a0_ (blk_keptB BH.out hb4);replace BZ:=a0_ (blk_keptB BZ.out hb4);replace HB:=a0_ (below_step HB.out hb4);clear ho4 hb4)
  | ((with_reducible refine gate_dst (N:=11) rfl ?_);refine box_event ?hg (N:=11) ?hd (cs:=#[.slice none 0 0]) (t:=28) ?hr ?_;(case hd=>rfl);(case hg=>rfl);(case hr=>first | (go_simp;done) | (go_simp;rfl));intro gb hg w5 hbox hb;have GB:=a0_ (show w.heap.size ≤ gb by rw [hg];exact below_size HB.out);have NT:=a0_ (show w.heap.size ≠ gb by rw [hg];exact Nat.ne_of_lt (blk_lt BT.out));have NH:=a0_ (show w.heap.size + 1 ≠ gb by rw [hg];exact Nat.ne_of_lt (blk_lt BH.out));have NZ:=a0_ (show w.heap.size + 1 + 1 ≠ gb by rw [hg];exact Nat.ne_of_lt (blk_lt BZ.out));replace HO4:=a0_ (Kd.R_below HO4.out hb);replace BT:=a0_ (blk_keptB BT.out hb);replace BH:=a0_ (blk_keptB BH.out hb);replace BZ:=a0_ (blk_keptB BZ.out hb);replace HB:=a0_ (below_step HB.out hb);have BW:=a0_ hbox;clear hb hbox hg hch;have hcw : w5.cell? ⟨gb,0,none⟩ = some (.slice none 0 0):=(blk_cell BW.out 0).trans rfl;have hfw:=blk_frozen BW.out 0)
  | (go_at_call 44;refine (impl_Heap_raise.callsF gb (.slice A4 l1_0.length c4) l1_0 a2 a3 w (w5.setCell ⟨gb,0,none⟩ (.slice A4 l1_0.length c4)) (blk_put BW.out 0 _ rfl) (Kd.R_set HO4.out BW.out (by decide) 0 _) (below_set HB.out GB.out) GB.out (by omega)).mono ?_;rintro e w6 ⟨v6,rfl,hB6,ho6,hb6,hk6⟩;rw [← NY.out] at ho6;have HO6:=a0_ ho6;have BB:=a0_ hB6;replace BT:=a0_ (hk6 _ _ (blk_far BT.out NT.out _) NT.out (Kd.R_ne HO4.out BT.out (by decide)));replace BH:=a0_ (hk6 _ _ (blk_far BH.out NH.out _) NH.out (Kd.R_ne HO4.out BH.out (by decide)));replace BZ:=a0_ (hk6 _ _ (blk_far BZ.out NZ.out _) NZ.out (Kd.R_ne HO4.out BZ.out (by decide)));replace HB:=a0_ hb6;obtain ⟨A6,c6,e6⟩:=Kd.R_slice ho6;subst e6;clear hB6 ho6 hb6 hk6 hcw hfw HO4))
 have hct:=(blk_cell BT.out 0).trans rfl
 have hch:=(blk_cell BH.out 0).trans rfl
 have hcb:=(blk_cell BB.out 0).trans rfl
 have hcz : w6.cell? ⟨w.heap.size + 1 + 1,0,none⟩ = some (.slice none 0 0):=(blk_cell BZ.out 0).trans rfl
 have hfz:=blk_frozen BZ.out 0
 cases hq1 : vH l0_0 l1_0 with
 | false =>
  rw [hq1,Bool.false_and,if_neg (by simp)] at hR
  obtain ⟨rfl,hR2⟩:=Prod.mk.inj hR
  obtain ⟨rfl,rfl⟩:=Prod.mk.inj hR2
  rw [hq1] at HV1
  clear hR hR2 hq1
  go_wp2_with (first | (go_at_call 30;(with_reducible refine (HV1.out _ HB.out).mono ?_);rintro e w' ⟨rfl,hb'⟩;replace BT:=a0_ (blk_keptB BT.out hb');replace BH:=a0_ (blk_keptB BH.out hb');replace BZ:=a0_ (blk_keptB BZ.out hb');replace BB:=a0_ (blk_keptB BB.out hb');replace HO6:=a0_ (Kd.R_below HO6.out hb');replace HB:=a0_ (below_step HB.out hb');clear hb' hct hch hcb hcz hfz;have hct:=(blk_cell BT.out 0).trans rfl;have hch:=(blk_cell BH.out 0).trans rfl;have hcb:=(blk_cell BB.out 0).trans rfl;have hcz : w'.cell? ⟨w.heap.size + 1 + 1,0,none⟩ = some (.slice none 0 0):=(blk_cell BZ.out 0).trans rfl;have hfz:=blk_frozen BZ.out 0) | (go_at_call 30;(with_reducible refine (HV2.out A6 c6 _ HB.out (Kd.R_reads' HO6.out).2.2 (Kd.R_reads' HO6.out).2.1).mono ?_);rintro e w' ⟨rfl,hb'⟩;replace BT:=a0_ (blk_keptB BT.out hb');replace BH:=a0_ (blk_keptB BH.out hb');replace BZ:=a0_ (blk_keptB BZ.out hb');replace BB:=a0_ (blk_keptB BB.out hb');replace HO6:=a0_ (Kd.R_below HO6.out hb');replace HB:=a0_ (below_step HB.out hb');clear hb' hct hch hcb hcz hfz;have hct:=(blk_cell BT.out 0).trans rfl;have hch:=(blk_cell BH.out 0).trans rfl;have hcb:=(blk_cell BB.out 0).trans rfl;have hcz : w'.cell? ⟨w.heap.size + 1 + 1,0,none⟩ = some (.slice none 0 0):=(blk_cell BZ.out 0).trans rfl;have hfz:=blk_frozen BZ.out 0))
  refine bodyPost_ret (results_ctt rfl _ _ (w.heap.size + 1 + 1) 28 #[.slice none 0 0] (0,0) _ rfl (blk_put BZ.out 0 _ rfl) Try.underlying28 rfl (by kernel_rfl)) rfl ?_
  exact ⟨_,rfl,Kd.R_nil _ _ _ _ _,below_set HB.out (by omega)⟩
 | true =>
  rw [hq1,Bool.true_and] at hR
  rw [hq1] at HV1
  clear hq1
  cases hq2 : vH l0_0 y with
  | false =>
   rw [hq2,if_neg (by simp)] at hR
   obtain ⟨rfl,hR2⟩:=Prod.mk.inj hR
   obtain ⟨rfl,rfl⟩:=Prod.mk.inj hR2
   rw [hq2] at HV2
   clear hR hR2 hq2
   go_wp2_with (first | (go_at_call 30;(with_reducible refine (HV1.out _ HB.out).mono ?_);rintro e w' ⟨rfl,hb'⟩;replace BT:=a0_ (blk_keptB BT.out hb');replace BH:=a0_ (blk_keptB BH.out hb');replace BZ:=a0_ (blk_keptB BZ.out hb');replace BB:=a0_ (blk_keptB BB.out hb');replace HO6:=a0_ (Kd.R_below HO6.out hb');replace HB:=a0_ (below_step HB.out hb');clear hb' hct hch hcb hcz hfz;have hct:=(blk_cell BT.out 0).trans rfl;have hch:=(blk_cell BH.out 0).trans rfl;have hcb:=(blk_cell BB.out 0).trans rfl;have hcz : w'.cell? ⟨w.heap.size + 1 + 1,0,none⟩ = some (.slice none 0 0):=(blk_cell BZ.out 0).trans rfl;have hfz:=blk_frozen BZ.out 0) | (go_at_call 30;(with_reducible refine (HV2.out A6 c6 _ HB.out (Kd.R_reads' HO6.out).2.2 (Kd.R_reads' HO6.out).2.1).mono ?_);rintro e w' ⟨rfl,hb'⟩;replace BT:=a0_ (blk_keptB BT.out hb');replace BH:=a0_ (blk_keptB BH.out hb');replace BZ:=a0_ (blk_keptB BZ.out hb');replace BB:=a0_ (blk_keptB BB.out hb');replace HO6:=a0_ (Kd.R_below HO6.out hb');replace HB:=a0_ (below_step HB.out hb');clear hb' hct hch hcb hcz hfz;have hct:=(blk_cell BT.out 0).trans rfl;have hch:=(blk_cell BH.out 0).trans rfl;have hcb:=(blk_cell BB.out 0).trans rfl;have hcz : w'.cell? ⟨w.heap.size + 1 + 1,0,none⟩ = some (.slice none 0 0):=(blk_cell BZ.out 0).trans rfl;have hfz:=blk_frozen BZ.out 0))
   refine bodyPost_ret (results_ctt rfl _ _ (w.heap.size + 1 + 1) 28 #[.slice none 0 0] (0,0) _ rfl (blk_put BZ.out 0 _ rfl) Try.underlying28 rfl (by kernel_rfl)) rfl ?_
   exact ⟨_,rfl,Kd.R_nil _ _ _ _ _,below_set HB.out (by omega)⟩
  | true =>
   rw [hq2,if_pos rfl] at hR
   obtain ⟨rfl,hR2⟩:=Prod.mk.inj hR
   obtain ⟨rfl,rfl⟩:=Prod.mk.inj hR2
   rw [hq2] at HV2
   clear hR hR2 hq2
   go_wp2_with (first | (go_at_call 30;(with_reducible refine (HV1.out _ HB.out).mono ?_);rintro e w' ⟨rfl,hb'⟩;replace BT:=a0_ (blk_keptB BT.out hb');replace BH:=a0_ (blk_keptB BH.out hb');replace BZ:=a0_ (blk_keptB BZ.out hb');replace BB:=a0_ (blk_keptB BB.out hb');replace HO6:=a0_ (Kd.R_below HO6.out hb');replace HB:=a0_ (below_step HB.out hb');clear hb' hct hch hcb hcz hfz;have hct:=(blk_cell BT.out 0).trans rfl;have hch:=(blk_cell BH.out 0).trans rfl;have hcb:=(blk_cell BB.out 0).trans rfl;have hcz : w'.cell? ⟨w.heap.size + 1 + 1,0,none⟩ = some (.slice none 0 0):=(blk_cell BZ.out 0).trans rfl;have hfz:=blk_frozen BZ.out 0) | (go_at_call 30;(with_reducible refine (HV2.out A6 c6 _ HB.out (Kd.R_reads' HO6.out).2.2 (Kd.R_reads' HO6.out).2.1).mono ?_);rintro e w' ⟨rfl,hb'⟩;replace BT:=a0_ (blk_keptB BT.out hb');replace BH:=a0_ (blk_keptB BH.out hb');replace BZ:=a0_ (blk_keptB BZ.out hb');replace BB:=a0_ (blk_keptB BB.out hb');replace HO6:=a0_ (Kd.R_below HO6.out hb');replace HB:=a0_ (below_step HB.out hb');clear hb' hct hch hcb hcz hfz;have hct:=(blk_cell BT.out 0).trans rfl;have hch:=(blk_cell BH.out 0).trans rfl;have hcb:=(blk_cell BB.out 0).trans rfl;have hcz : w'.cell? ⟨w.heap.size + 1 + 1,0,none⟩ = some (.slice none 0 0):=(blk_cell BZ.out 0).trans rfl;have hfz:=blk_frozen BZ.out 0) | (go_at_call 43;refine (HC2.out A6 c6 _ (Kd.R_reads' HO6.out).2.2 (Kd.R_reads' HO6.out).2.1).mono ?_;rintro e w9 ⟨v9,rfl,ho9,hb9⟩;obtain ⟨A9,c9,e9⟩:=Kd.R_slice ho9;subst e9;have HO9:=a0_ (Kd.R_lower ho9 (below_size HB.out));replace BZ:=a0_ (blk_keptB BZ.out hb9);replace HB:=a0_ (below_step HB.out hb9);clear hcz hfz;have hcz : w9.cell? ⟨w.heap.size + 1 + 1,0,none⟩ = some (.slice none 0 0):=(blk_cell BZ.out 0).trans rfl;have hfz:=blk_frozen BZ.out 0;clear ho9 hb9))
   refine bodyPost_ret (results_ctt rfl _ _ (w.heap.size + 1 + 1) 28 #[_] (0,0) _ rfl (blk_put BZ.out 0 _ rfl) Try.underlying28 rfl (by kernel_rfl)) rfl ?_
   exact ⟨_,rfl,Kd.R_set HO9.out BZ.out (by decide) 0 _,below_set HB.out (by omega)⟩
theorem impl_NewFault_ev (t : List Cls) (h : List Fau) (a c : Int) (hs : smT t = true) (hl : h.length ≤ 1048576) : impl_NewFault.f t h a c = some (newP t h a c):=by rw [impl_NewFault.f,if_pos ⟨hs,hl⟩]
end Go.Proofs.Ytmiholmfbjalfaa.P
namespace Go.Proofs.Ytmiholmfbjalfaa.P
open Go.RowKit Go.Proofs.YtmiholmfbjalfaaW.PrintWords Go.Proofs.YtmiholmfbjalfaaW.PrintLast Go.Proofs.YtmiholmfbjalfaaW.PrintMore
attribute [local go_sem] max2_int min2_int max_two min_two max_three min_three max_four min_four
set_option linter.unusedVariables false
set_option linter.unusedSimpArgs false
def spec_inRange.f (a0 : Int) (a1 : Int) (a2 : Int) : Option (Bool):=if a1 ≤ a0 then (some (decide (a0 ≤ a2))) else (some false)
set_option maxHeartbeats 8000000 in
set_option maxRecDepth 100000 in
theorem spec_inRange.calls (a0 : Int) (a1 : Int) (a2 : Int) (r : Bool) (w : World) (h : spec_inRange.f a0 a1 a2 = some r) :
  Calls Try.prog 71 #[.int .i64 a0,.int .i64 a1,.int .i64 a2] w fun e w'=>e = .returned (.bool r) ∧ Drawn0 w w':=by
 have H : (if a1 ≤ a0 then (some (decide (a0 ≤ a2))) else (some false)) = some r:=h
 clear h
 by_cases c4 : a1 ≤ a0
 ·rw [if_pos c4] at H
  have c4b0 : decide (a1 ≤ a0) = true:=decide_eq_true c4
  clear c4
  obtain rfl:=Option.some.inj H
  go_enter Try.func71,Try.ntmps71
  go_wp2
  go_ret
  exact ⟨by first | rfl | (simp;done) | (simp [*];done),by repeat (first | exact Drawn0.refl _ | apply Drawn0.step)⟩
 ·rw [if_neg c4] at H
  have c4b0 : decide (a1 ≤ a0) = false:=decide_eq_false c4
  clear c4
  obtain rfl:=Option.some.inj H
  go_enter Try.func71,Try.ntmps71
  go_wp2
  go_ret
  exact ⟨by first | rfl | (simp;done) | (simp [*];done),by repeat (first | exact Drawn0.refl _ | apply Drawn0.step)⟩
theorem spec_inRange_ev (a b c : Int) : spec_inRange.f a b c = some (decide (b ≤ a) && decide (a ≤ c)):=by
 unfold spec_inRange.f
 by_cases h : b ≤ a
 ·rw [if_pos h];simp [h]
 ·rw [if_neg h];simp [h]
end Go.Proofs.Ytmiholmfbjalfaa.P
