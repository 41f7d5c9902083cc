/- Texts under the proof of FnNewFault: helper words, the functions' contracts and the plain laws. No condition. -/
import Derived.Test.YtmiholmfbjalfaaQFnNewFaulta
import Derived.Test.YtmiholmfbjalfaaQFnNewFaultb
namespace Go.Proofs.Ytmiholmfbjalfaa.P
open Go.RowKit Go.Proofs.YtmiholmfbjalfaaW.PrintWords Go.Proofs.YtmiholmfbjalfaaW.PrintLast Go.Proofs.YtmiholmfbjalfaaW.PrintMore
attribute [local go_sem] max2_int min2_int max_two min_two max_three min_three max_four min_four
set_option linter.unusedVariables false
set_option linter.unusedSimpArgs false
mutual
def spec_goodHeap.l0 : Nat → Int → List Int → Int → List (S87) → List (S43) → Option ((List (S43)) × Int)
 | 0,_,_,_,_,_=>none
 | k + 1,x6,x1000,x1001,x2000,x7000=>if x6 > 0 then ((spec_reader_pick.f k x1000 x1001 (x2000.length : Int)).bind fun bt12=>((spec_reader_one.f k x1000 bt12.2 (([1,2,3,0,99] : List Int))).bind fun bt17=>((spec_added.f x7000 bt12.1 bt17.1).bind fun t19=>(spec_goodHeap.l0 k (wrap64 (x6 - 1)) x1000 bt17.2 x2000 t19)))) else ((spec_reader_one.f k x1000 x1001 (([3,4,2,5,0] : List Int))).bind fun bt25=>(spec_goodHeap.l1 k bt25.1 x1000 bt25.2 x7000))
def spec_goodHeap.l1 : Nat → Int → List Int → Int → List (S43) → Option ((List (S43)) × Int)
 | 0,_,_,_,_=>none
 | k + 1,x7,x1000,x1001,x7000=>if x7 > 0 then (spec_goodHeap.j2 k x7 (decide ((x7000.length : Int) > 1)) x1000 x1001 x7000) else (spec_goodHeap.j2 k x7 false x1000 x1001 x7000)
def spec_goodHeap.j2 : Nat → Int → Bool → List Int → Int → List (S43) → Option ((List (S43)) × Int)
 | 0,_,_,_,_,_=>none
 | k + 1,x7,x39,x1000,x1001,x7000=>if x39 = true then ((spec_reader_pick.f k x1000 x1001 (x7000.length : Int)).bind fun bt27=>((spec_reader_pick.f k x1000 bt27.2 (x7000.length : Int)).bind fun bt29=>(if bt27.1 = bt29.1 then (if 0 ≤ bt27.1 then (if bt27.1 < (x7000.length : Int) then (spec_goodHeap.l1 k (wrap64 (x7 - 1)) x1000 bt29.2 (x7000.set (bt27.1 : Int).toNat (⟨(rd_T43 x7000 bt27.1).f0,(rd_T43 x7000 bt27.1).f1,(rd_T43 x7000 bt27.1).f2,(rd_T43 x7000 bt27.1).f3,!((rd_T43 x7000 bt27.1).f4)⟩ : S43))) else (none)) else (none)) else ((spec_reader_pick.f k x1000 bt29.2 3).bind fun bt33=>(if bt33.1 = 0 then (if 0 ≤ bt27.1 then (if bt27.1 < (x7000.length : Int) then ((some (x7000.set (bt27.1 : Int).toNat (⟨(rd_T43 x7000 bt27.1).f0,(rd_T43 x7000 bt27.1).f1,bt29.1,(rd_T43 x7000 bt27.1).f3,(rd_T43 x7000 bt27.1).f4⟩ : S43) : List (S43))).bind fun y35=>(spec_goodHeap.l1 k (wrap64 (x7 - 1)) x1000 bt33.2 (y35.set (bt27.1 : Int).toNat (⟨(rd_T43 y35 bt27.1).f0,(rd_T43 y35 bt27.1).f1,(rd_T43 y35 bt27.1).f2,(rd_T43 y35 bt27.1).f3,true⟩ : S43)))) else (none)) else (none)) else ((spec_raised.f k x7000 bt27.1 bt29.1).bind fun t37=>(spec_goodHeap.l1 k (wrap64 (x7 - 1)) x1000 bt33.2 t37))))))) else (some (x7000,x1001))
end
def spec_goodHeap.f (k : Nat) (s0_0 : List Int) (s0_1 : Int) (l1_0 : List (S87)) : Option ((List (S43)) × Int):=(spec_reader_one.f k s0_0 s0_1 (([4,5,3,6,2,1,0] : List Int))).bind fun bt10=>(spec_goodHeap.l0 k bt10.1 s0_0 bt10.2 l1_0 (([] : List (S43))))
theorem spec_goodHeap.mono_l : ∀ k,(∀ y0 y1 y2 y3 y4,LeO (spec_goodHeap.l0 k y0 y1 y2 y3 y4) (spec_goodHeap.l0 (k + 1) y0 y1 y2 y3 y4)) ∧ (∀ y0 y1 y2 y3,LeO (spec_goodHeap.l1 k y0 y1 y2 y3) (spec_goodHeap.l1 (k + 1) y0 y1 y2 y3)) ∧ (∀ y0 y1 y2 y3 y4,LeO (spec_goodHeap.j2 k y0 y1 y2 y3 y4) (spec_goodHeap.j2 (k + 1) y0 y1 y2 y3 y4))
 | 0=>⟨fun _ _ _ _ _ r h=>by simp [spec_goodHeap.l0] at h,fun _ _ _ _ r h=>by simp [spec_goodHeap.l1] at h,fun _ _ _ _ _ r h=>by simp [spec_goodHeap.j2] at h⟩
 | k + 1=>by
  obtain ⟨ih0,ih1,ih2⟩:=spec_goodHeap.mono_l k
  refine ⟨?_,?_,?_⟩
  ·intro y0 y1 y2 y3 y4
   unfold spec_goodHeap.l0
   repeat' first
   | (with_reducible exact ih0 _ _ _ _ _)
   | (with_reducible exact ih1 _ _ _ _)
   | (with_reducible exact ih2 _ _ _ _ _)
   | (with_reducible exact spec_raised.mono _ _ _ _)
   | (with_reducible exact spec_reader_one.mono _ _ _ _)
   | (with_reducible exact spec_reader_pick.mono _ _ _ _)
   | (with_reducible exact LeO.refl _)
   | (with_reducible exact LeO.none _)
   | (with_reducible refine LeO.ite ?_ ?_)
   | (with_reducible refine LeO.bind ?_ (fun _=>?_))
   | exact ih0 _ _ _ _ _
   | exact ih1 _ _ _ _
   | exact ih2 _ _ _ _ _
   | exact spec_raised.mono _ _ _ _
   | exact spec_reader_one.mono _ _ _ _
   | exact spec_reader_pick.mono _ _ _ _
   | exact LeO.none _
   | refine LeO.ite ?_ ?_
   | refine LeO.bind ?_ (fun _=>?_)
  ·intro y0 y1 y2 y3
   unfold spec_goodHeap.l1
   repeat' first
   | (with_reducible exact ih0 _ _ _ _ _)
   | (with_reducible exact ih1 _ _ _ _)
   | (with_reducible exact ih2 _ _ _ _ _)
   | (with_reducible exact spec_raised.mono _ _ _ _)
   | (with_reducible exact spec_reader_one.mono _ _ _ _)
   | (with_reducible exact spec_reader_pick.mono _ _ _ _)
   | (with_reducible exact LeO.refl _)
   | (with_reducible exact LeO.none _)
   | (with_reducible refine LeO.ite ?_ ?_)
   | (with_reducible refine LeO.bind ?_ (fun _=>?_))
   | exact ih0 _ _ _ _ _
   | exact ih1 _ _ _ _
   | exact ih2 _ _ _ _ _
   | exact spec_raised.mono _ _ _ _
   | exact spec_reader_one.mono _ _ _ _
   | exact spec_reader_pick.mono _ _ _ _
   | exact LeO.none _
   | refine LeO.ite ?_ ?_
   | refine LeO.bind ?_ (fun _=>?_)
  ·intro y0 y1 y2 y3 y4
   unfold spec_goodHeap.j2
   repeat' first
   | (with_reducible exact ih0 _ _ _ _ _)
   | (with_reducible exact ih1 _ _ _ _)
   | (with_reducible exact ih2 _ _ _ _ _)
   | (with_reducible exact spec_raised.mono _ _ _ _)
   | (with_reducible exact spec_reader_one.mono _ _ _ _)
   | (with_reducible exact spec_reader_pick.mono _ _ _ _)
   | (with_reducible exact LeO.refl _)
   | (with_reducible exact LeO.none _)
   | (with_reducible refine LeO.ite ?_ ?_)
   | (with_reducible refine LeO.bind ?_ (fun _=>?_))
   | exact ih0 _ _ _ _ _
   | exact ih1 _ _ _ _
   | exact ih2 _ _ _ _ _
   | exact spec_raised.mono _ _ _ _
   | exact spec_reader_one.mono _ _ _ _
   | exact spec_reader_pick.mono _ _ _ _
   | exact LeO.none _
   | refine LeO.ite ?_ ?_
   | refine LeO.bind ?_ (fun _=>?_)
theorem spec_goodHeap.mono : ∀ a0 a1 a2 k,LeO (spec_goodHeap.f k a0 a1 a2) (spec_goodHeap.f (k + 1) a0 a1 a2):=by
 intro a0 a1 a2 k
 obtain ⟨ih0,ih1,ih2⟩:=spec_goodHeap.mono_l k
 unfold spec_goodHeap.f
 repeat' first
   | (with_reducible exact ih0 _ _ _ _ _)
   | (with_reducible exact ih1 _ _ _ _)
   | (with_reducible exact ih2 _ _ _ _ _)
   | (with_reducible exact spec_raised.mono _ _ _ _)
   | (with_reducible exact spec_reader_one.mono _ _ _ _)
   | (with_reducible exact spec_reader_pick.mono _ _ _ _)
   | (with_reducible exact LeO.refl _)
   | (with_reducible exact LeO.none _)
   | (with_reducible refine LeO.ite ?_ ?_)
   | (with_reducible refine LeO.bind ?_ (fun _=>?_))
   | exact ih0 _ _ _ _ _
   | exact ih1 _ _ _ _
   | exact ih2 _ _ _ _ _
   | exact spec_raised.mono _ _ _ _
   | exact spec_reader_one.mono _ _ _ _
   | exact spec_reader_pick.mono _ _ _ _
   | exact LeO.none _
   | refine LeO.ite ?_ ?_
   | refine LeO.bind ?_ (fun _=>?_)
def spec_goodHeap.T5 : Bool × List (List Nat × List Nat):=(true,[([],[]),([],[]),([],[]),([2],[2]),([3],[3]),([1,4],[1,4]),([],[]),([],[]),([6,7,5],[6,7]),([0,5,8,8],[0,5,8]),([9,9,0,1,2,3,4,5,6,7,8,9],[9])])
def spec_goodHeap.B5 : List Nat:=[0,0,0,4,12,30,0,0,254,511,1023]
theorem spec_goodHeap.tab5 : rtab .any (opsOf Try.f67 5) = spec_goodHeap.T5:=by kernel_rfl
theorem spec_goodHeap.bits5 : waitsOk spec_goodHeap.T5.2 spec_goodHeap.B5 = true:=by kernel_rfl
def spec_goodHeap.T13 : Bool × List (List Nat × List Nat):=(true,[([],[]),([0],[0]),([],[]),([],[]),([3],[3]),([],[]),([4,5],[4,5]),([6],[6]),([7],[7]),([8],[8]),([1,2,0,1,2,3,4,5,6,7,8,9],[1,2]),([10,0,1,2,3,4,5,6,7,8,9],[10]),([11,9,0,1,2,3,4,5,6,7,8,9],[9,11])])
def spec_goodHeap.B13 : List Nat:=[0,1,0,0,8,0,56,120,248,504,1023,2047,4095]
theorem spec_goodHeap.tab13 : rtab .any (opsOf Try.f67 13) = spec_goodHeap.T13:=by kernel_rfl
theorem spec_goodHeap.bits13 : waitsOk spec_goodHeap.T13.2 spec_goodHeap.B13 = true:=by kernel_rfl
set_option maxHeartbeats 8000000 in
set_option maxRecDepth 100000 in
theorem spec_goodHeap.calls (k : Nat) (g : Nat) (s0_0 : List Int) (s0_1 : Int) (A1_0 : Option Addr) (c1_0 : Nat) (l1_0 : List (S87)) (r1 : List (S43)) (r2 : Int) (w0 w : World) (hI : IsS76 w0 w g s0_0 s0_1) (hB : Below w0.heap.size w0 w) (hr1_0 : ∀ W_,KeepBut w W_ g none → Kd.C k87 W_ A1_0 l1_0.length l1_0) (hc1_0 : l1_0.length ≤ c1_0) (h : spec_goodHeap.f k s0_0 s0_1 l1_0 = some (r1,r2)) :
  Calls Try.prog 67 #[.pointer (some ⟨g,0,none⟩),.agg #[.slice A1_0 l1_0.length c1_0]] w fun e w'=>∃ v0_ : Value,e = .returned (.agg #[v0_]) ∧ Kd.R k43 43 w' w.heap.size (fun _=>True) v0_ r1 ∧ IsS76 w0 w' g s0_0 r2 ∧ Below w0.heap.size w0 w' ∧ KeepBut w w' g none:=by
 have hu25:=Try.underlying25
 have hu28:=Try.underlying28
 have HR1_0:=a0_ hr1_0
 have HC1_0:=a0_ hc1_0
 clear hr1_0 hc1_0
 have HI0:=a0_ hI
 have HK:=a0_ (KeepBut.refl w g none)
 have HL:=a0_ hB.size
 clear hI
 have HW0:=a0_ hB.size
 have HB:=a0_ hB
 clear hB
 have H : ((spec_reader_one.f k s0_0 s0_1 (([4,5,3,6,2,1,0] : List Int))).bind fun bt10=>(spec_goodHeap.l0 k bt10.1 s0_0 bt10.2 l1_0 (([] : List (S43))))) = some (r1,r2):=h
 clear h
 obtain ⟨y3,hy3⟩ : ∃ y_ : List (S43),y_ = (([] : List (S43))):=⟨_,rfl⟩
 replace H : ((spec_reader_one.f k s0_0 s0_1 (([4,5,3,6,2,1,0] : List Int))).bind fun bt10=>(spec_goodHeap.l0 k bt10.1 s0_0 bt10.2 l1_0 y3)) = some (r1,r2):=by first | (rw [hy3];with_reducible exact H) | (have H2_:=(Option.bind_some _ _).symm.trans H;rw [hy3];with_reducible exact H2_) | (have H2_:=(Option.bind_some _ _).symm.trans H;with_reducible exact H2_) | with_reducible exact H | (rw [hy3];exact H) | exact H
 have Ny3:=a0_ hy3
 clear hy3
 obtain ⟨y7,hy7⟩ : ∃ y_ : List Int,y_ = (([4,5,3,6,2,1,0] : List Int)):=⟨_,rfl⟩
 replace H : ((spec_reader_one.f k s0_0 s0_1 y7).bind fun bt10=>(spec_goodHeap.l0 k bt10.1 s0_0 bt10.2 l1_0 y3)) = some (r1,r2):=by first | (rw [hy7];with_reducible exact H) | (have H2_:=(Option.bind_some _ _).symm.trans H;rw [hy7];with_reducible exact H2_) | (have H2_:=(Option.bind_some _ _).symm.trans H;with_reducible exact H2_) | with_reducible exact H | (rw [hy7];exact H) | exact H
 have Ny7:=a0_ hy7
 clear hy7
 replace H:=Option.bind_eq_some_iff.mp H
 obtain ⟨⟨t10,t11⟩,A30,H⟩:=H
 replace H : (spec_goodHeap.l0 k t10 s0_0 t11 l1_0 y3) = some (r1,r2):=H
 have A3:=a0_ A30
 clear A30
 have H':=a0_ H
 clear H
 go_enter Try.func67,Try.ntmps67
 go_wp2_with (first | ((with_reducible refine gate_dst (N:=3) rfl ?_);(try (refine gate_guard (by rfl) ?_;dsimp only));refine box_event ?hg (N:=3) ?hd (cs:=#[.slice A1_0 l1_0.length c1_0]) (t:=25) ?hr ?_;(case hd=>rfl);(case hg=>rfl);(case hr=>first | (go_simp;done) | (go_simp;rfl));intro gb1 hg w4 hbox hb;have n0_:=a0_ (IsS76.below is0_ hb);have n1_:=a0_ (KeepBut.trans (w:=w) hk_ (KeepBut.of_below hb g none) (.inl rfl));have n2_:=a0_ (below_step hbi0_ hb);have n3_:=a0_ (hbox);have n4_:=a0_ ((by rw [hg];exact (keep_size (w:=w) (g:=g) (row:=none) hk_) : w.heap.size ≤ gb1));have n5_:=a0_ ((Nat.le_trans HW0.out (by rw [hg];exact (keep_size (w:=w) (g:=g) (row:=none) hk_) : w.heap.size ≤ gb1) : w0.heap.size ≤ gb1));have n6_:=a0_ ((by rw [hg];exact Nat.ne_of_lt (IsS76.lt (is0_ : IsS76 w0 _ g s0_0 s0_1)) : g ≠ gb1));have n7_:=a0_ ((by rw [hg];exact Nat.ne_of_gt (IsS76.lt (is0_ : IsS76 w0 _ g s0_0 s0_1)) : gb1 ≠ g));clear HI0 HK HB;have HI0:=n0_;have HK:=n1_;have HB:=n2_;have BK1:=n3_;have GW1:=n4_;have GE1:=n5_;have NB0_1:=n6_;have NB1_0:=n7_;clear n0_ n1_ n2_ n3_ n4_ n5_ n6_ n7_;clear hb hbox hg) | ((with_reducible refine gate_dst (N:=4) rfl ?_);(try (refine gate_guard (by rfl) ?_;dsimp only));refine box_event ?hg (N:=4) ?hd (cs:=#[.slice none 0 0]) (t:=28) ?hr ?_;(case hd=>rfl);(case hg=>rfl);(case hr=>first | (go_simp;done) | (go_simp;rfl));intro gb2 hg w5 hbox hb;have n0_:=a0_ (IsS76.below is0_ hb);have n1_:=kb_ BK1 hb;have n2_:=a0_ (KeepBut.trans (w:=w) hk_ (KeepBut.of_below hb g none) (.inl rfl));have n3_:=a0_ (below_step hbi0_ hb);have n4_:=a0_ (hbox);have n5_:=a0_ ((by rw [hg];exact (keep_size (w:=w) (g:=g) (row:=none) hk_) : w.heap.size ≤ gb2));have n6_:=a0_ ((Nat.le_trans HW0.out (by rw [hg];exact (keep_size (w:=w) (g:=g) (row:=none) hk_) : w.heap.size ≤ gb2) : w0.heap.size ≤ gb2));have n7_:=a0_ ((by rw [hg];exact Nat.ne_of_lt (blk_lt (bb_ BK1.out)) : gb1 ≠ gb2));have n8_:=a0_ ((by rw [hg];exact Nat.ne_of_gt (blk_lt (bb_ BK1.out)) : gb2 ≠ gb1));have n9_:=a0_ ((by rw [hg];exact Nat.ne_of_lt (IsS76.lt (is0_ : IsS76 w0 _ g s0_0 s0_1)) : g ≠ gb2));have n10_:=a0_ ((by rw [hg];exact Nat.ne_of_gt (IsS76.lt (is0_ : IsS76 w0 _ g s0_0 s0_1)) : gb2 ≠ g));clear HI0 BK1;clear HK HB;have HI0:=n0_;have BK1:=n1_;have HK:=n2_;have HB:=n3_;have BK2:=n4_;have GW2:=n5_;have GE2:=n6_;have NB1_2:=n7_;have NB2_1:=n8_;have NB0_2:=n9_;have NB2_0:=n10_;clear n0_ n1_ n2_ n3_ n4_ n5_ n6_ n7_ n8_ n9_ n10_;clear hb hbox hg) | ((with_reducible refine gate_dst (N:=10) rfl ?_);(try (refine gate_guard (by rfl) ?_;dsimp only));refine Kd.R_lit k43 _ 43 ?hg (N:=10) ?hd (xs:=([] : List (S43))) (inner:=[]) (ok:=fun _=>True) (okp:=fun _=>True) ?hr ?hp (fun _ hk=>hk) trivial (Below.refl _ _) (Nat.le_refl _) (by simp) ?_;(case hd=>rfl);(case hg=>rfl);(case hr=>first | (go_simp;done) | (go_simp;rfl));(case hp=>exact (Reps.none _ _));intro v4 w6 ho7 hb hg_ hnew_;clear hg_ hnew_;(first | rw [← Ny3.out] at ho7 | (simp only [Int.reduceToNat] at ho7;rw [← Ny3.out] at ho7));have n0_:=a0_ (Kd.R_lower ho7 (keep_size (w:=w) (g:=g) (row:=none) hk_));have n1_:=a0_ (IsS76.below is0_ hb);have n2_:=kb_ BK1 hb;have n3_:=kb_ BK2 hb;have n4_:=a0_ (KeepBut.trans (w:=w) hk_ (KeepBut.of_below hb g none) (.inl rfl));have n5_:=a0_ (below_step hbi0_ hb);clear HI0 BK1;clear BK2 HK HB;have HO5:=n0_;have HI0:=n1_;have BK1:=n2_;have BK2:=n3_;have HK:=n4_;have HB:=n5_;clear n0_ n1_ n2_ n3_ n4_ n5_;clear hb ho7;obtain ⟨Ao8,co8,eo8⟩:=Kd.R_slice HO5.out;subst eo8) | ((with_reducible refine gate_dst (N:=5) rfl ?_);(try (refine gate_guard (by rfl) ?_;dsimp only));refine box_event ?hg (N:=5) ?hd (cs:=#[.slice none 0 0]) (t:=28) ?hr ?_;(case hd=>rfl);(case hg=>rfl);(case hr=>first | (go_simp;done) | (go_simp;rfl));intro gb6 hg w9 hbox hb;have n0_:=rb_ HO5 hb;have n1_:=a0_ (IsS76.below is0_ hb);have n2_:=kb_ BK1 hb;have n3_:=kb_ BK2 hb;have n4_:=a0_ (KeepBut.trans (w:=w) hk_ (KeepBut.of_below hb g none) (.inl rfl));have n5_:=a0_ (below_step hbi0_ hb);have n6_:=a0_ (hbox);have n7_:=a0_ ((by rw [hg];exact (keep_size (w:=w) (g:=g) (row:=none) hk_) : w.heap.size ≤ gb6));have n8_:=a0_ ((Nat.le_trans HW0.out (by rw [hg];exact (keep_size (w:=w) (g:=g) (row:=none) hk_) : w.heap.size ≤ gb6) : w0.heap.size ≤ gb6));have n9_:=a0_ ((by rw [hg];exact Nat.ne_of_lt (blk_lt (bb_ BK1.out)) : gb1 ≠ gb6));have n10_:=a0_ ((by rw [hg];exact Nat.ne_of_gt (blk_lt (bb_ BK1.out)) : gb6 ≠ gb1));have n11_:=a0_ ((by rw [hg];exact Nat.ne_of_lt (blk_lt (bb_ BK2.out)) : gb2 ≠ gb6));have n12_:=a0_ ((by rw [hg];exact Nat.ne_of_gt (blk_lt (bb_ BK2.out)) : gb6 ≠ gb2));have n13_:=a0_ ((by rw [hg];exact Nat.ne_of_lt (IsS76.lt (is0_ : IsS76 w0 _ g s0_0 s0_1)) : g ≠ gb6));have n14_:=a0_ ((by rw [hg];exact Nat.ne_of_gt (IsS76.lt (is0_ : IsS76 w0 _ g s0_0 s0_1)) : gb6 ≠ g));clear HO5 HI0;clear BK1 BK2;clear HK HB;have HO5:=n0_;have HI0:=n1_;have BK1:=n2_;have BK2:=n3_;have HK:=n4_;have HB:=n5_;have BK6:=n6_;have GW6:=n7_;have GE6:=n8_;have NB1_6:=n9_;have NB6_1:=n10_;have NB2_6:=n11_;have NB6_2:=n12_;have NB0_6:=n13_;have NB6_0:=n14_;clear n0_ n1_ n2_ n3_ n4_ n5_ n6_ n7_ n8_ n9_ n10_ n11_ n12_ n13_ n14_;clear hb hbox hg;have hnb10:=NB6_1.out;have hnc10:=NB1_6.out;have hnb11:=NB6_2.out;have hnc11:=NB2_6.out;have hnb12:=NB6_0.out;have hnc12:=NB0_6.out;have hcz13_0 : w9.cell? ⟨gb6,0,none⟩ = some (.slice none 0 0):=(blk_cell BK6.out 0).trans rfl;have hfz13_0:=blk_frozen BK6.out 0) | ((with_reducible refine gate_dst (N:=13) rfl ?_);(try (refine gate_guard (by rfl) ?_;dsimp only));refine Kd.R_lit (Kd.int .i64) _ 3 ?hg (N:=13) ?hd (xs:=([4,5,3,6,2,1,0] : List Int)) (inner:=[.int .i64 4,.int .i64 5,.int .i64 3,.int .i64 6,.int .i64 2,.int .i64 1,.int .i64 0]) (ok:=fun _=>True) (okp:=fun _=>True) ?hr ?hp (fun _ hk=>hk) trivial (Below.refl _ _) (Nat.le_refl _) (by simp) ?_;(case hd=>rfl);(case hg=>rfl);(case hr=>first | (go_simp;done) | (go_simp;rfl));(case hp=>exact (Reps.one (show Kd.M (Kd.int .i64) _ _ _ 4 [.int .i64 4] from rfl) (Reps.one (show Kd.M (Kd.int .i64) _ _ _ 5 [.int .i64 5] from rfl) (Reps.one (show Kd.M (Kd.int .i64) _ _ _ 3 [.int .i64 3] from rfl) (Reps.one (show Kd.M (Kd.int .i64) _ _ _ 6 [.int .i64 6] from rfl) (Reps.one (show Kd.M (Kd.int .i64) _ _ _ 2 [.int .i64 2] from rfl) (Reps.one (show Kd.M (Kd.int .i64) _ _ _ 1 [.int .i64 1] from rfl) (Reps.one (show Kd.M (Kd.int .i64) _ _ _ 0 [.int .i64 0] from rfl) (Reps.none _ _)))))))));intro v8 w14 ho15 hb hg_ hnew_;clear hg_ hnew_;(first | rw [← Ny7.out] at ho15 | (simp only [Int.reduceToNat] at ho15;rw [← Ny7.out] at ho15));have n0_:=a0_ (Kd.R_below (by (with_reducible repeat (first | apply Kd.R_alloc | apply Kd.R_drewN | apply Kd.R_drew));exact (Kd.R_mono (Kd.R_far (p:=⟨gb6,0,none⟩) (Kd.R_types HO5.out BK6.out (by decide)) (fun _ hk=>hk.2) (.slice Ao8 y3.length co8)) (fun _ h_=>h_.1))) hb);have n1_:=a0_ (Kd.R_lower ho15 (keep_size (w:=w) (g:=g) (row:=none) hk_));have n2_:=a0_ (IsS76.below (is0_ : IsS76 w0 (w9.setCell ⟨gb6,0,none⟩ (.slice Ao8 y3.length co8)) g s0_0 s0_1) hb);have n3_:=kf_ BK1 NB1_6 hb;have n4_:=kf_ BK2 NB2_6 hb;have n5_:=a0_ (blk_below (g:=gb6) (o:=.cells #[.slice Ao8 y3.length co8] 28 (0,0)) (by (with_reducible repeat (first | refine blk_drewN ?_ _ | refine blk_drew ?_ | refine blk_alloc ?_ _));refine blk_put (cs:=#[.slice none 0 0]) ?_ 0 _ rfl;(with_reducible repeat (first | refine blk_drewN ?_ _ | refine blk_drew ?_ | refine blk_alloc ?_ _));exact BK6.out) hb);have n6_:=a0_ (KeepBut.trans (w:=w) hk_ (KeepBut.of_below hb g none) (.inl rfl));have n7_:=a0_ (below_step hbi0_ hb);clear HO5 HI0;clear BK1 BK2;clear BK6 HK HB;have HO5:=n0_;have HO9:=n1_;have HI0:=n2_;have BK1:=n3_;have BK2:=n4_;have BK6:=n5_;have HK:=n6_;have HB:=n7_;clear n0_ n1_ n2_ n3_ n4_ n5_ n6_ n7_;clear hb ho15;obtain ⟨Ao16,co16,eo16⟩:=Kd.R_slice HO9.out;subst eo16) | ((with_reducible refine gate_callee (f:=42) rfl ?_);refine goesL_ (some 14) rfl rfl Try.func42 (by kernel_rfl) rfl #[.pointer (some ⟨g,0,none⟩),.slice Ao16 y7.length co16] rfl lm_ ?_;(with_reducible refine (spec_reader_one.calls k g s0_0 s0_1 _ _ y7 t10 t11 w0 _ ?side1 ?side2 ?side3 ?side4 ?side5 A3.out).mono ?_);(case side1=>exact is0_);(case side2=>exact hbi0_);(case side3=>exact cc_ (Kd.R_reads' HO9.out).2.2);(case side4=>exact (Kd.R_reads' HO9.out).2.1);(case side5=>exact far_slice (IsS76.own_ne HI0.out HO9.out (by decide)));rintro e w17 ⟨rfl,hi,hb,hk⟩;refine ⟨_,rfl,?_⟩;replace BK1:=kk_ hk BK1 NB1_0;replace BK2:=kk_ hk BK2 NB2_0;replace HO5:=a0_ (Kd.R_mono (Kd.R_keep (IsS76.apart (is0_ : IsS76 w0 _ g s0_0 s0_1) (rr_ HO5.out) (by decide)) hk (fun _ h=>h.2)) (fun _ h=>h.1));replace BK6:=kk_ hk BK6 NB6_0;replace HO9:=a0_ (Kd.R_mono (Kd.R_keep (IsS76.apart (is0_ : IsS76 w0 _ g s0_0 s0_1) (rr_ HO9.out) (by decide)) hk (fun _ h=>h.2)) (fun _ h=>h.1));replace HK:=a0_ (KeepBut.trans (w:=w) hk_ hk (.inl rfl));replace HI0:=a0_ (hi);replace HB:=a0_ (hb);(try clear hb);(try clear hb2);(try clear hk);(try clear hi)))
 go_loopg [6] k (fun kq v6 w'=>∃ (x6_1 : Int) (x1001_1 : Int) (x7000_1 : List (S43)) (u7000 : Value),v6 = .int .i64 x6_1 ∧ Aside0 (spec_goodHeap.l0 kq x6_1 s0_0 x1001_1 l1_0 x7000_1 = some (r1,r2)) ∧ Aside0 (kq ≤ k) ∧ Aside0 (Kd.R k43 43 w' w.heap.size (fun _=>True) u7000 x7000_1) ∧ Aside0 (w'.heap[gb1]? = some (.cells #[(.slice A1_0 l1_0.length c1_0)] 25 (0,0))) ∧ Aside0 (w'.heap[gb2]? = some (.cells #[(.slice none 0 0)] 28 (0,0))) ∧ Aside0 (w'.heap[gb6]? = some (.cells #[u7000] 28 (0,0))) ∧ Aside0 (IsS76 w0 w' g s0_0 x1001_1) ∧ Aside0 (KeepBut w w' g none) ∧ Aside0 (Below w0.heap.size w0 w'))
 case atStart=>exact ⟨(t10),(t11),(y3),(.slice Ao8 y3.length co8),(by first | rfl | (simp;done) | (simp [*];done)),H',⟨Nat.le_refl _⟩,⟨by (with_reducible repeat (first | apply Kd.R_alloc | apply Kd.R_drewN | apply Kd.R_drew));exact HO5.out⟩,⟨by (with_reducible repeat (first | refine blk_drewN ?_ _ | refine blk_drew ?_ | refine blk_alloc ?_ _));exact BK1.out⟩,⟨by (with_reducible repeat (first | refine blk_drewN ?_ _ | refine blk_drew ?_ | refine blk_alloc ?_ _));exact BK2.out⟩,⟨by (with_reducible repeat (first | refine blk_drewN ?_ _ | refine blk_drew ?_ | refine blk_alloc ?_ _));exact BK6.out⟩,⟨is0_⟩,⟨hk_⟩,⟨hbi0_⟩⟩
 case round =>
  clear H'
  try clear c1
  try clear p2
  try clear c4
  try clear c6
  try clear c10
  try clear c11
  try clear c12
  try clear hcz13_0
  try clear hfz13_0
  obtain ⟨x6_1,x1001_1,x7000_1,u7000,rfl,HA,HK1,Z7,BK1,BK2,BK6,HI0,HK,HB⟩:=hrel
  cases gk with
  | zero=>exact absurd HA.out (by simp [spec_goodHeap.l0])
  | succ k1 =>
   have H:=HA.out
   clear HA
   simp only [spec_goodHeap.l0] at H
   by_cases c18 : x6_1 > 0
   ·rw [if_pos c18] at H
    have c18b0 : decide (0 < x6_1) = true:=decide_eq_true c18
    clear c18
    replace H:=Option.bind_eq_some_iff.mp H
    obtain ⟨⟨t12,t13⟩,A190,H⟩:=H
    try dsimp only at H
    have A19:=a0_ A190
    clear A190
    obtain ⟨y14,hy14⟩ : ∃ y_ : List Int,y_ = (([1,2,3,0,99] : List Int)):=⟨_,rfl⟩
    replace H : ((spec_reader_one.f k1 s0_0 t13 y14).bind fun bt17=>((spec_added.f x7000_1 t12 bt17.1).bind fun t19=>(spec_goodHeap.l0 k1 (wrap64 (x6_1 - 1)) s0_0 bt17.2 l1_0 t19))) = some (r1,r2):=by first | (rw [hy14];with_reducible exact H) | (have H2_:=(Option.bind_some _ _).symm.trans H;rw [hy14];with_reducible exact H2_) | (have H2_:=(Option.bind_some _ _).symm.trans H;with_reducible exact H2_) | with_reducible exact H | (rw [hy14];exact H) | exact H
    have Ny14:=a0_ hy14
    clear hy14
    replace H:=Option.bind_eq_some_iff.mp H
    obtain ⟨⟨t17,t18⟩,A200,H⟩:=H
    try dsimp only at H
    have A20:=a0_ A200
    clear A200
    replace H:=Option.bind_eq_some_iff.mp H
    obtain ⟨t19,A210,H⟩:=H
    try dsimp only at H
    have A21:=a0_ A210
    clear A210
    have H':=a0_ H
    clear H
    obtain ⟨Ao22,co22,eo22⟩:=Kd.R_slice Z7.out
    subst eo22
    try go_wp2
    have n0_:=a0_ (Kd.R_drew Z7.out)
    have n1_:=a0_ (blk_drew BK1.out)
    have n2_:=a0_ (blk_drew BK2.out)
    have n3_:=a0_ (blk_drew BK6.out)
    have n4_:=a0_ (IsS76.drew HI0.out)
    have n5_:=a0_ (keep_drew HK.out)
    have n6_:=a0_ (below_drew1 HB.out)
    clear Z7
    clear BK1
    clear BK2
    clear BK6
    clear HI0
    clear HK
    clear HB
    have Z7:=n0_
    have BK1:=n1_
    have BK2:=n2_
    have BK6:=n3_
    have HI0:=n4_
    have HK:=n5_
    have HB:=n6_
    clear n0_ n1_ n2_ n3_ n4_ n5_ n6_
    refine start_ (n:=11) (S:=fun w'=>w'.cell? ⟨gb6,0,none⟩ = some (.slice Ao22 x7000_1.length co22) ∧ w'.cell? ⟨gb1,0,none⟩ = some (.slice A1_0 l1_0.length c1_0)) (ds:=[10]) #[false,false,false,false,false,false,false,false,false,false,false] (by kernel_rfl) rfl rfl ⟨(blk_cell BK6.out 0).trans rfl,(blk_cell BK1.out 0).trans rfl⟩ (fun hHeld=>?_);refine with_tabW spec_goodHeap.tab5 spec_goodHeap.bits5 (fun HT_ HW_=>?_)
    generalize wr.drew = w23 at Z7 BK1 BK2 BK6 HI0 HK HB hHeld ⊢
    refine pure_ (i:=1) (N:=some 20) (v:=?_) (a':=?_) #[false,true,false,false,false,false,false,false,false,false,false] rfl rfl (any_of HT_.out (by kernel_rfl)) (fun _ _ _ h=>h) (Or.inl ⟨by rfl,?_⟩) ?_ ?_
    rotate_left
    ·intro w'
     go_simp
     with_reducible rfl
    rotate_left
    ·simp only [Act.put,s1_,s2_,s3_,i64_w,i32_w]
     rfl
    refine pure_ (i:=2) (N:=some 21) (v:=?_) (a':=?_) #[false,true,true,false,false,false,false,false,false,false,false] rfl rfl (any_of HT_.out (by kernel_rfl)) (fun _ _ _ h=>h) (Or.inl ⟨by rfl,?_⟩) ?_ ?_
    rotate_left
    ·intro w'
     go_simp
     with_reducible rfl
    rotate_left
    ·simp only [Act.put,s1_,s2_,s3_,i64_w,i32_w]
     rfl
    refine pure_ (i:=6) (N:=some 25) (v:=?_) (a':=?_) #[false,true,true,false,false,false,true,false,false,false,false] rfl rfl (any_of HT_.out (by kernel_rfl)) (fun _ _ _ h=>h) (Or.inl ⟨by rfl,?_⟩) ?_ ?_
    rotate_left
    ·intro w'
     go_simp
     with_reducible rfl
    rotate_left
    ·simp only [Act.put,s1_,s2_,s3_,i64_w,i32_w]
     rfl
    refine take_ (i:=0) (N:=some 19) (v:=?_) (a':=?_) #[true,true,true,false,false,false,true,false,false,false,false] rfl rfl (take_ofW HT_.out HW_.out (by kernel_rfl)) (fun _ _ _ h=>h) (Or.inl ⟨by rfl,?_⟩) hHeld ?_ ?_
    rotate_left
    ·rintro w' ⟨s0,s1⟩
     go_simp
     with_reducible rfl
    rotate_left
    ·simp only [Act.put,s1_,s2_,s3_,i64_w,i32_w]
     rfl
    refine take_ (i:=3) (N:=some 22) (v:=?_) (a':=?_) #[true,true,true,true,false,false,true,false,false,false,false] rfl rfl (take_ofW HT_.out HW_.out (by kernel_rfl)) (fun _ _ _ h=>h) (Or.inl ⟨by rfl,?_⟩) hHeld ?_ ?_
    rotate_left
    ·rintro w' ⟨s0,s1⟩
     go_simp
     with_reducible rfl
    rotate_left
    ·simp only [Act.put,s1_,s2_,s3_,i64_w,i32_w]
     rfl
    refine pure_ (i:=4) (N:=some 23) (v:=?_) (a':=?_) #[true,true,true,true,true,false,true,false,false,false,false] rfl rfl (any_of HT_.out (by kernel_rfl)) (fun _ _ _ h=>h) (Or.inl ⟨by rfl,?_⟩) ?_ ?_
    rotate_left
    ·intro w'
     go_simp
     with_reducible rfl
    rotate_left
    ·simp only [Act.put,s1_,s2_,s3_,i64_w,i32_w]
     rfl
    refine join_ (σ:=Value) 3 #[true,true,true,true,true,true,true,true,false,false,false] (fun s_=>[(24,.int .i64 t12),(26,s_)]) (fun s_ w'=>(w'.cell? ⟨gb6,0,none⟩ = some (.slice Ao22 x7000_1.length co22) ∧ w'.cell? ⟨gb1,0,none⟩ = some (.slice A1_0 l1_0.length c1_0)) ∧ (Kd.R (Kd.int .i64) 3 w' w.heap.size (fun _=>True) s_ y14) ∧ (Kd.R k43 43 w' w.heap.size (fun _=>True) (.slice Ao22 x7000_1.length co22) x7000_1) ∧ (w'.heap[gb1]? = some (.cells #[.slice A1_0 l1_0.length c1_0] 25 (0,0))) ∧ (w'.heap[gb2]? = some (.cells #[.slice none 0 0] 28 (0,0))) ∧ (w'.heap[gb6]? = some (.cells #[.slice Ao22 x7000_1.length co22] 28 (0,0))) ∧ (IsS76 w0 w' g s0_0 t13) ∧ (KeepBut w w' g none) ∧ (Below w0.heap.size w0 w')) ?_ ?_
    rotate_left
    ·intro hCont
     refine two_ (i:=5) (j:=7) (Ni:=some 24) (Nj:=some 26) #[true,true,true,true,true,true,true,false,false,false,false] #[true,true,true,true,true,false,true,true,false,false,false] rfl rfl rfl rfl (two_of HT_.out (by kernel_rfl)) (by decide) (by decide) (fun K hK=>?_) (fun K hK=>?_)
     ·skip
      refine goes_ Try.func48 (by kernel_rfl) rfl #[.pointer (some ⟨g,0,none⟩),.int .i64 (l1_0.length : Int)] (by rfl) rfl rfl lm_ ?_
      with_reducible refine (spec_reader_pick.calls k1 g s0_0 x1001_1 (l1_0.length : Int) t12 t13 w0 _ ?side1 ?side2 A19.out).mono ?_
      (case side1=>exact is0_)
      (case side2=>exact hbi0_)
      rintro e w24 ⟨rfl,hi,hb,hk⟩
      refine ⟨_,rfl,?_⟩
      have n0_:=a0_ (Kd.R_mono (Kd.R_keep (IsS76.apart (is0_ : IsS76 w0 _ g s0_0 x1001_1) (rr_ Z7.out) (by decide)) hk (fun _ h=>h.2)) (fun _ h=>h.1))
      have n1_:=kk_ hk BK1 NB1_0
      have n2_:=kk_ hk BK2 NB2_0
      have n3_:=kk_ hk BK6 NB6_0
      have n4_:=a0_ (KeepBut.trans (w:=w) hk_ hk (.inl rfl))
      have n5_:=a0_ (hb)
      have n6_:=a0_ (hi)
      clear Z7
      clear BK1
      clear BK2
      clear BK6
      clear HK
      clear HB
      clear HI0
      have Z7:=n0_
      have BK1:=n1_
      have BK2:=n2_
      have BK6:=n3_
      have HK:=n4_
      have HB:=n5_
      have HI0:=n6_
      clear n0_ n1_ n2_ n3_ n4_ n5_ n6_
      (try clear hb)
      (try clear hb2)
      (try clear hk)
      (try clear hi)
      refine hK.out _ _ ⟨(blk_cell BK6.out 0).trans rfl,(blk_cell BK1.out 0).trans rfl⟩ (fun hHeld=>?_)
      clear hK K
      refine norm_ (a':=?_) ?_ ?_
      rotate_left
      ·show Act.put _ (some 24) _ = _
       simp only [Act.put,s1_,s2_,s3_,i64_w,i32_w]
       rfl
      refine one_ (i:=7) (N:=some 26) #[true,true,true,true,true,true,true,true,false,false,false] rfl rfl (one_of HT_.out (by kernel_rfl)) (by decide) (fun K hK=>?_)
      refine Kd.R_lit_step (Kd.int .i64) _ 3 ?hg (N:=26) ?hd (xs:=([1,2,3,0,99] : List Int)) (inner:=[.int .i64 1,.int .i64 2,.int .i64 3,.int .i64 0,.int .i64 99]) (ok:=fun _=>True) (okp:=fun _=>True) ?hr ?hp (fun _ hk=>hk) trivial (Below.refl _ _) (Nat.le_refl _) (by simp) ?_;(case hd=>rfl);(case hg=>rfl);(case hr=>first | (go_simp;done) | (go_simp;rfl));(case hp=>exact (Reps.one (show Kd.M (Kd.int .i64) _ _ _ 1 [.int .i64 1] from rfl) (Reps.one (show Kd.M (Kd.int .i64) _ _ _ 2 [.int .i64 2] from rfl) (Reps.one (show Kd.M (Kd.int .i64) _ _ _ 3 [.int .i64 3] from rfl) (Reps.one (show Kd.M (Kd.int .i64) _ _ _ 0 [.int .i64 0] from rfl) (Reps.one (show Kd.M (Kd.int .i64) _ _ _ 99 [.int .i64 99] from rfl) (Reps.none _ _)))))))
      intro v15 w25 ho26 hb hg_ hnew_
      clear hg_ hnew_
      (first | rw [← Ny14.out] at ho26 | (simp only [Int.reduceToNat] at ho26;rw [← Ny14.out] at ho26))
      have n0_:=rb_ Z7 hb
      have n1_:=a0_ (Kd.R_lower ho26 (keep_size (w:=w) (g:=g) (row:=none) hk_))
      have n2_:=kb_ BK1 hb
      have n3_:=kb_ BK2 hb
      have n4_:=kb_ BK6 hb
      have n5_:=a0_ (IsS76.below is0_ hb)
      have n6_:=a0_ (KeepBut.trans (w:=w) hk_ (KeepBut.of_below hb g none) (.inl rfl))
      have n7_:=a0_ (below_step hbi0_ hb)
      clear Z7
      clear BK1
      clear BK2
      clear BK6
      clear HI0
      clear HK
      clear HB
      have Z7:=n0_
      have HO16:=n1_
      have BK1:=n2_
      have BK2:=n3_
      have BK6:=n4_
      have HI0:=n5_
      have HK:=n6_
      have HB:=n7_
      clear n0_ n1_ n2_ n3_ n4_ n5_ n6_ n7_
      clear hb ho26
      refine hK.out _ _ ⟨(blk_cell BK6.out 0).trans rfl,(blk_cell BK1.out 0).trans rfl⟩ (fun hHeld=>?_)
      clear hK K
      refine norm_ (a':=?_) ?_ ?_
      rotate_left
      ·show Act.put _ (some 26) _ = _
       simp only [Act.put,s1_,s2_,s3_,i64_w,i32_w]
       rfl
      exact norm_ (by simp only [putAll,Act.put,s1_,s2_,s3_]) (hCont (v15) _ ⟨hHeld,(rr_ HO16.out),(rr_ Z7.out),(bb_ BK1.out),(bb_ BK2.out),(bb_ BK6.out),is0_,hk_,hbi0_⟩)
     ·skip
      refine Kd.R_lit_step (Kd.int .i64) _ 3 ?hg (N:=26) ?hd (xs:=([1,2,3,0,99] : List Int)) (inner:=[.int .i64 1,.int .i64 2,.int .i64 3,.int .i64 0,.int .i64 99]) (ok:=fun _=>True) (okp:=fun _=>True) ?hr ?hp (fun _ hk=>hk) trivial (Below.refl _ _) (Nat.le_refl _) (by simp) ?_;(case hd=>rfl);(case hg=>rfl);(case hr=>first | (go_simp;done) | (go_simp;rfl));(case hp=>exact (Reps.one (show Kd.M (Kd.int .i64) _ _ _ 1 [.int .i64 1] from rfl) (Reps.one (show Kd.M (Kd.int .i64) _ _ _ 2 [.int .i64 2] from rfl) (Reps.one (show Kd.M (Kd.int .i64) _ _ _ 3 [.int .i64 3] from rfl) (Reps.one (show Kd.M (Kd.int .i64) _ _ _ 0 [.int .i64 0] from rfl) (Reps.one (show Kd.M (Kd.int .i64) _ _ _ 99 [.int .i64 99] from rfl) (Reps.none _ _)))))))
      intro v15 w24 ho25 hb hg_ hnew_
      clear hg_ hnew_
      (first | rw [← Ny14.out] at ho25 | (simp only [Int.reduceToNat] at ho25;rw [← Ny14.out] at ho25))
      have n0_:=rb_ Z7 hb
      have n1_:=a0_ (Kd.R_lower ho25 (keep_size (w:=w) (g:=g) (row:=none) hk_))
      have n2_:=kb_ BK1 hb
      have n3_:=kb_ BK2 hb
      have n4_:=kb_ BK6 hb
      have n5_:=a0_ (IsS76.below is0_ hb)
      have n6_:=a0_ (KeepBut.trans (w:=w) hk_ (KeepBut.of_below hb g none) (.inl rfl))
      have n7_:=a0_ (below_step hbi0_ hb)
      clear Z7
      clear BK1
      clear BK2
      clear BK6
      clear HI0
      clear HK
      clear HB
      have Z7:=n0_
      have HO16:=n1_
      have BK1:=n2_
      have BK2:=n3_
      have BK6:=n4_
      have HI0:=n5_
      have HK:=n6_
      have HB:=n7_
      clear n0_ n1_ n2_ n3_ n4_ n5_ n6_ n7_
      clear hb ho25
      refine hK.out _ _ ⟨(blk_cell BK6.out 0).trans rfl,(blk_cell BK1.out 0).trans rfl⟩ (fun hHeld=>?_)
      clear hK K
      refine norm_ (a':=?_) ?_ ?_
      rotate_left
      ·show Act.put _ (some 26) _ = _
       simp only [Act.put,s1_,s2_,s3_,i64_w,i32_w]
       rfl
      refine one_ (i:=5) (N:=some 24) #[true,true,true,true,true,true,true,true,false,false,false] rfl rfl (one_of HT_.out (by kernel_rfl)) (by decide) (fun K hK=>?_)
      refine goes_ Try.func48 (by kernel_rfl) rfl #[.pointer (some ⟨g,0,none⟩),.int .i64 (l1_0.length : Int)] (by rfl) rfl rfl lm_ ?_
      with_reducible refine (spec_reader_pick.calls k1 g s0_0 x1001_1 (l1_0.length : Int) t12 t13 w0 _ ?side1 ?side2 A19.out).mono ?_
      (case side1=>exact is0_)
      (case side2=>exact hbi0_)
      rintro e w26 ⟨rfl,hi,hb,hk⟩
      refine ⟨_,rfl,?_⟩
      have n0_:=a0_ (Kd.R_mono (Kd.R_keep (IsS76.apart (is0_ : IsS76 w0 _ g s0_0 x1001_1) (rr_ Z7.out) (by decide)) hk (fun _ h=>h.2)) (fun _ h=>h.1))
      have n1_:=kk_ hk BK1 NB1_0
      have n2_:=kk_ hk BK2 NB2_0
      have n3_:=kk_ hk BK6 NB6_0
      have n4_:=a0_ (Kd.R_mono (Kd.R_keep (IsS76.apart (is0_ : IsS76 w0 _ g s0_0 x1001_1) (rr_ HO16.out) (by decide)) hk (fun _ h=>h.2)) (fun _ h=>h.1))
      have n5_:=a0_ (KeepBut.trans (w:=w) hk_ hk (.inl rfl))
      have n6_:=a0_ (hb)
      have n7_:=a0_ (hi)
      clear Z7
      clear BK1
      clear BK2
      clear BK6
      clear HO16
      clear HK
      clear HB
      clear HI0
      have Z7:=n0_
      have BK1:=n1_
      have BK2:=n2_
      have BK6:=n3_
      have HO16:=n4_
      have HK:=n5_
      have HB:=n6_
      have HI0:=n7_
      clear n0_ n1_ n2_ n3_ n4_ n5_ n6_ n7_
      (try clear hb)
      (try clear hb2)
      (try clear hk)
      (try clear hi)
      refine hK.out _ _ ⟨(blk_cell BK6.out 0).trans rfl,(blk_cell BK1.out 0).trans rfl⟩ (fun hHeld=>?_)
      clear hK K
      refine norm_ (a':=?_) ?_ ?_
      rotate_left
      ·show Act.put _ (some 24) _ = _
       simp only [Act.put,s1_,s2_,s3_,i64_w,i32_w]
       rfl
      exact norm_ (by simp only [putAll,Act.put,s1_,s2_,s3_]) (hCont (v15) _ ⟨hHeld,(rr_ HO16.out),(rr_ Z7.out),(bb_ BK1.out),(bb_ BK2.out),(bb_ BK6.out),is0_,hk_,hbi0_⟩)
    rintro v15 w27 ⟨hS_,h0_,h1_,h2_,h3_,h4_,h5_,h6_,h7_⟩
    have n0_ : Aside0 (Kd.R (Kd.int .i64) 3 w27 w.heap.size (fun _=>True) v15 y14):=⟨h0_⟩
    have n1_ : Aside0 (Kd.R k43 43 w27 w.heap.size (fun _=>True) (.slice Ao22 x7000_1.length co22) x7000_1):=⟨h1_⟩
    have n2_ : Aside0 (w27.heap[gb1]? = some (.cells #[.slice A1_0 l1_0.length c1_0] 25 (0,0))):=⟨h2_⟩
    have n3_ : Aside0 (w27.heap[gb2]? = some (.cells #[.slice none 0 0] 28 (0,0))):=⟨h3_⟩
    have n4_ : Aside0 (w27.heap[gb6]? = some (.cells #[.slice Ao22 x7000_1.length co22] 28 (0,0))):=⟨h4_⟩
    have n5_ : Aside0 (IsS76 w0 w27 g s0_0 t13):=⟨h5_⟩
    have n6_ : Aside0 (KeepBut w w27 g none):=⟨h6_⟩
    have n7_ : Aside0 (Below w0.heap.size w0 w27):=⟨h7_⟩
    clear Z7
    clear BK1
    clear BK2
    clear BK6
    clear HI0
    clear HK
    clear HB
    clear h0_ h1_ h2_ h3_ h4_ h5_ h6_ h7_
    have HO16:=n0_
    have Z7:=n1_
    have BK1:=n2_
    have BK2:=n3_
    have BK6:=n4_
    have HI0:=n5_
    have HK:=n6_
    have HB:=n7_
    clear n0_ n1_ n2_ n3_ n4_ n5_ n6_ n7_
    have hHeld : w27.cell? ⟨gb6,0,none⟩ = some (.slice Ao22 x7000_1.length co22) ∧ w27.cell? ⟨gb1,0,none⟩ = some (.slice A1_0 l1_0.length c1_0):=hS_
    obtain ⟨Ao28,co28,eo28⟩:=Kd.R_slice HO16.out
    (first | subst eo28 | (injection eo28 with f1_ f2_ f3_;have f4_:=f1_.symm;have f5_:=f3_.symm;clear f1_ f2_ f3_;subst f4_;subst f5_))
    refine norm_ (a':=?_) ?_ ?_
    rotate_left
    ·simp only [putAll,Act.put,s1_,s2_,s3_]
     rfl
    refine one_ (i:=8) (N:=some 27) #[true,true,true,true,true,true,true,true,true,false,false] rfl rfl (one_of HT_.out (by kernel_rfl)) (by decide) (fun K hK=>?_)
    refine goes_ Try.func42 (by kernel_rfl) rfl #[.pointer (some ⟨g,0,none⟩),.slice Ao28 y14.length co28] (by rfl) rfl rfl lm_ ?_
    with_reducible refine (spec_reader_one.calls k1 g s0_0 t13 _ _ y14 t17 t18 w0 _ ?side1 ?side2 ?side3 ?side4 ?side5 A20.out).mono ?_
    (case side1=>exact is0_)
    (case side2=>exact hbi0_)
    (case side3=>exact cc_ (Kd.R_reads' HO16.out).2.2)
    (case side4=>exact (Kd.R_reads' HO16.out).2.1)
    (case side5=>exact far_slice (IsS76.own_ne HI0.out HO16.out (by decide)))
    rintro e w29 ⟨rfl,hi,hb,hk⟩
    refine ⟨_,rfl,?_⟩
    have n0_:=a0_ (Kd.R_mono (Kd.R_keep (IsS76.apart (is0_ : IsS76 w0 _ g s0_0 t13) (rr_ Z7.out) (by decide)) hk (fun _ h=>h.2)) (fun _ h=>h.1))
    have n1_:=kk_ hk BK1 NB1_0
    have n2_:=kk_ hk BK2 NB2_0
    have n3_:=kk_ hk BK6 NB6_0
    have n4_:=a0_ (Kd.R_mono (Kd.R_keep (IsS76.apart (is0_ : IsS76 w0 _ g s0_0 t13) (rr_ HO16.out) (by decide)) hk (fun _ h=>h.2)) (fun _ h=>h.1))
    have n5_:=a0_ (KeepBut.trans (w:=w) hk_ hk (.inl rfl))
    have n6_:=a0_ (hb)
    have n7_:=a0_ (hi)
    clear Z7
    clear BK1
    clear BK2
    clear BK6
    clear HO16
    clear HK
    clear HB
    clear HI0
    have Z7:=n0_
    have BK1:=n1_
    have BK2:=n2_
    have BK6:=n3_
    have HO16:=n4_
    have HK:=n5_
    have HB:=n6_
    have HI0:=n7_
    clear n0_ n1_ n2_ n3_ n4_ n5_ n6_ n7_
    (try clear hb)
    (try clear hb2)
    (try clear hk)
    (try clear hi)
    refine hK.out _ _ ⟨(blk_cell BK6.out 0).trans rfl,(blk_cell BK1.out 0).trans rfl⟩ (fun hHeld=>?_)
    clear hK K
    refine norm_ (a':=?_) ?_ ?_
    rotate_left
    ·show Act.put _ (some 27) _ = _
     simp only [Act.put,s1_,s2_,s3_,i64_w,i32_w]
     rfl
    refine one_ (i:=9) (N:=some 28) #[true,true,true,true,true,true,true,true,true,true,false] rfl rfl (one_of HT_.out (by kernel_rfl)) (by decide) (fun K hK=>?_)
    refine goes_ Try.func45 (by kernel_rfl) rfl #[.agg #[.slice Ao22 x7000_1.length co22],.int .i64 t12,.int .i64 t17] (by rfl) rfl rfl lm_ ?_
    with_reducible refine (spec_added.calls _ _ x7000_1 t12 t17 t19 _ ?side1 ?side2 A21.out).mono ?_
    (case side1=>exact cc_ (Kd.R_reads' Z7.out).2.2)
    (case side2=>exact (Kd.R_reads' Z7.out).2.1)
    rintro e w30 ⟨v20,rfl,ho0,hb⟩
    refine ⟨_,rfl,?_⟩
    have n0_:=a0_ (Kd.R_elder' (rr_ Z7.out) (Kd.R_base ho0) hb)
    have n1_:=rb_ HO16 hb
    have n2_:=a0_ (Kd.R_lower (Kd.R_new' ho0 (Kd.R_lt (rr_ Z7.out))) (keep_size (w:=w) (g:=g) (row:=none) hk_))
    have n3_:=kb_ BK1 hb
    have n4_:=kb_ BK2 hb
    have n5_:=kb_ BK6 hb
    have n6_:=a0_ (IsS76.below is0_ hb)
    have n7_:=a0_ (KeepBut.trans (w:=w) hk_ (KeepBut.of_below hb g none) (.inl rfl))
    have n8_:=a0_ (below_step hbi0_ hb)
    clear Z7
    clear HO16
    clear BK1
    clear BK2
    clear BK6
    clear HI0
    clear HK
    clear HB
    have Z7:=n0_
    have HO16:=n1_
    have HO21:=n2_
    have BK1:=n3_
    have BK2:=n4_
    have BK6:=n5_
    have HI0:=n6_
    have HK:=n7_
    have HB:=n8_
    clear n0_ n1_ n2_ n3_ n4_ n5_ n6_ n7_ n8_
    (try clear hb)
    (try clear hb2)
    (try clear hk)
    (try clear hi)
    (try clear ho0)
    obtain ⟨Ao31,co31,eo31⟩:=Kd.R_slice HO21.out
    (first | subst eo31 | (injection eo31 with f1_ f2_ f3_;have f4_:=f1_.symm;have f5_:=f3_.symm;clear f1_ f2_ f3_;subst f4_;subst f5_))
    refine hK.out _ _ ⟨(blk_cell BK6.out 0).trans rfl,(blk_cell BK1.out 0).trans rfl⟩ (fun hHeld=>?_)
    clear hK K
    refine norm_ (a':=?_) ?_ ?_
    rotate_left
    ·show Act.put _ (some 28) _ = _
     simp only [Act.put,s1_,s2_,s3_,i64_w,i32_w]
     rfl
    refine last_ (i:=10) (N:=none) #[true,true,true,true,true,true,true,true,true,true,true] rfl rfl (one_of HT_.out (by kernel_rfl)) (by decide) (fun K hK=>?_)
    have hs32 : w30.cell? ⟨gb6,0,none⟩ = some (.slice Ao22 x7000_1.length co22):=(blk_cell BK6.out 0).trans rfl
    have hfs32:=blk_frozen BK6.out 0
    have hns32_0:=NB1_6.out
    have hns32_1:=NB2_6.out
    have hms32_0:=NB6_1.out
    have hms32_1:=NB6_2.out
    refine skip_ (w1:=?_) (by rfl) rfl ?_ ?_
    rotate_left
    ·go_simp
     rfl
    refine hK.out _ _ ?_
    clear hK K
    refine done_ (done_of HT_.out (by kernel_rfl)) ?_
    try go_wp2
    go_roundg k1
    case measure=>have:=HK1.out;omega
    case rel=>exact ⟨(wrap64 (x6_1 - 1)),(t18),(t19),(.slice Ao31 t19.length co31),(by first | rfl | (simp;done) | (simp [*];done)),H',⟨by have:=HK1.out;omega⟩,⟨by (with_reducible repeat (first | apply Kd.R_alloc | apply Kd.R_drewN | apply Kd.R_drew));exact Kd.R_mono (Kd.R_far (p:=⟨gb6,0,none⟩) (Kd.R_types HO21.out BK6.out (by decide)) (fun _ hk=>hk.2) (.slice Ao31 t19.length co31)) (fun _ hk=>trivial)⟩,⟨by (with_reducible repeat (first | refine blk_drewN ?_ _ | refine blk_drew ?_ | refine blk_alloc ?_ _));refine blk_far ?_ NB1_6.out _;(with_reducible repeat (first | refine blk_drewN ?_ _ | refine blk_drew ?_ | refine blk_alloc ?_ _));exact BK1.out⟩,⟨by (with_reducible repeat (first | refine blk_drewN ?_ _ | refine blk_drew ?_ | refine blk_alloc ?_ _));refine blk_far ?_ NB2_6.out _;(with_reducible repeat (first | refine blk_drewN ?_ _ | refine blk_drew ?_ | refine blk_alloc ?_ _));exact BK2.out⟩,⟨by (with_reducible repeat (first | refine blk_drewN ?_ _ | refine blk_drew ?_ | refine blk_alloc ?_ _));refine blk_put (cs:=#[.slice Ao22 x7000_1.length co22]) ?_ 0 _ rfl;(with_reducible repeat (first | refine blk_drewN ?_ _ | refine blk_drew ?_ | refine blk_alloc ?_ _));exact BK6.out⟩,⟨is0_⟩,⟨hk_⟩,⟨hbi0_⟩⟩
   ·rw [if_neg c18] at H
    have c18b0 : decide (0 < x6_1) = false:=decide_eq_false c18
    clear c18
    obtain ⟨y22,hy22⟩ : ∃ y_ : List Int,y_ = (([3,4,2,5,0] : List Int)):=⟨_,rfl⟩
    replace H : ((spec_reader_one.f k1 s0_0 x1001_1 y22).bind fun bt25=>(spec_goodHeap.l1 k1 bt25.1 s0_0 bt25.2 x7000_1)) = some (r1,r2):=by first | (rw [hy22];with_reducible exact H) | (have H2_:=(Option.bind_some _ _).symm.trans H;rw [hy22];with_reducible exact H2_) | (have H2_:=(Option.bind_some _ _).symm.trans H;with_reducible exact H2_) | with_reducible exact H | (rw [hy22];exact H) | exact H
    have Ny22:=a0_ hy22
    clear hy22
    replace H:=Option.bind_eq_some_iff.mp H
    obtain ⟨⟨t25,t26⟩,A330,H⟩:=H
    replace H : (spec_goodHeap.l1 k1 t25 s0_0 t26 x7000_1) = some (r1,r2):=H
    have A33:=a0_ A330
    clear A330
    have H':=a0_ H
    clear H
    go_wp2_with (first | ((with_reducible refine gate_dst (N:=30) rfl ?_);(try (refine gate_guard (by rfl) ?_;dsimp only));refine Kd.R_lit (Kd.int .i64) _ 3 ?hg (N:=30) ?hd (xs:=([3,4,2,5,0] : List Int)) (inner:=[.int .i64 3,.int .i64 4,.int .i64 2,.int .i64 5,.int .i64 0]) (ok:=fun _=>True) (okp:=fun _=>True) ?hr ?hp (fun _ hk=>hk) trivial (Below.refl _ _) (Nat.le_refl _) (by simp) ?_;(case hd=>rfl);(case hg=>rfl);(case hr=>first | (go_simp;done) | (go_simp;rfl));(case hp=>exact (Reps.one (show Kd.M (Kd.int .i64) _ _ _ 3 [.int .i64 3] from rfl) (Reps.one (show Kd.M (Kd.int .i64) _ _ _ 4 [.int .i64 4] from rfl) (Reps.one (show Kd.M (Kd.int .i64) _ _ _ 2 [.int .i64 2] from rfl) (Reps.one (show Kd.M (Kd.int .i64) _ _ _ 5 [.int .i64 5] from rfl) (Reps.one (show Kd.M (Kd.int .i64) _ _ _ 0 [.int .i64 0] from rfl) (Reps.none _ _)))))));intro v23 w34 ho35 hb hg_ hnew_;clear hg_ hnew_;(first | rw [← Ny22.out] at ho35 | (simp only [Int.reduceToNat] at ho35;rw [← Ny22.out] at ho35));have n0_:=rb_ Z7 hb;have n1_:=a0_ (Kd.R_lower ho35 (keep_size (w:=w) (g:=g) (row:=none) hk_));have n2_:=kb_ BK1 hb;have n3_:=kb_ BK2 hb;have n4_:=kb_ BK6 hb;have n5_:=a0_ (IsS76.below is0_ hb);have n6_:=a0_ (KeepBut.trans (w:=w) hk_ (KeepBut.of_below hb g none) (.inl rfl));have n7_:=a0_ (below_step hbi0_ hb);clear Z7 BK1;clear BK2 BK6;clear HI0 HK HB;have Z7:=n0_;have HO24:=n1_;have BK1:=n2_;have BK2:=n3_;have BK6:=n4_;have HI0:=n5_;have HK:=n6_;have HB:=n7_;clear n0_ n1_ n2_ n3_ n4_ n5_ n6_ n7_;clear hb ho35;obtain ⟨Ao36,co36,eo36⟩:=Kd.R_slice HO24.out;subst eo36) | ((with_reducible refine gate_callee (f:=42) rfl ?_);refine goesL_ (some 31) rfl rfl Try.func42 (by kernel_rfl) rfl #[.pointer (some ⟨g,0,none⟩),.slice Ao36 y22.length co36] rfl lm_ ?_;(with_reducible refine (spec_reader_one.calls k1 g s0_0 x1001_1 _ _ y22 t25 t26 w0 _ ?side1 ?side2 ?side3 ?side4 ?side5 A33.out).mono ?_);(case side1=>exact is0_);(case side2=>exact hbi0_);(case side3=>exact cc_ (Kd.R_reads' HO24.out).2.2);(case side4=>exact (Kd.R_reads' HO24.out).2.1);(case side5=>exact far_slice (IsS76.own_ne HI0.out HO24.out (by decide)));rintro e w37 ⟨rfl,hi,hb,hk⟩;refine ⟨_,rfl,?_⟩;replace Z7:=a0_ (Kd.R_mono (Kd.R_keep (IsS76.apart (is0_ : IsS76 w0 _ g s0_0 x1001_1) (rr_ Z7.out) (by decide)) hk (fun _ h=>h.2)) (fun _ h=>h.1));replace BK1:=kk_ hk BK1 NB1_0;replace BK2:=kk_ hk BK2 NB2_0;replace BK6:=kk_ hk BK6 NB6_0;replace HO24:=a0_ (Kd.R_mono (Kd.R_keep (IsS76.apart (is0_ : IsS76 w0 _ g s0_0 x1001_1) (rr_ HO24.out) (by decide)) hk (fun _ h=>h.2)) (fun _ h=>h.1));replace HK:=a0_ (KeepBut.trans (w:=w) hk_ hk (.inl rfl));replace HI0:=a0_ (hi);replace HB:=a0_ (hb);(try clear hb);(try clear hb2);(try clear hk);(try clear hi)))
    go_loopg [7] k1 (fun kq v7 w'=>∃ (x7_2 : Int) (x1001_2 : Int) (x7000_2 : List (S43)) (u7000 : Value),v7 = .int .i64 x7_2 ∧ Aside0 (spec_goodHeap.l1 kq x7_2 s0_0 x1001_2 x7000_2 = some (r1,r2)) ∧ Aside0 (kq ≤ k1) ∧ Aside0 (Kd.R k43 43 w' w.heap.size (fun _=>True) u7000 x7000_2) ∧ Aside0 (w'.heap[gb1]? = some (.cells #[(.slice A1_0 l1_0.length c1_0)] 25 (0,0))) ∧ Aside0 (w'.heap[gb2]? = some (.cells #[(.slice none 0 0)] 28 (0,0))) ∧ Aside0 (w'.heap[gb6]? = some (.cells #[u7000] 28 (0,0))) ∧ Aside0 (IsS76 w0 w' g s0_0 x1001_2) ∧ Aside0 (KeepBut w w' g none) ∧ Aside0 (Below w0.heap.size w0 w'))
    case atStart=>exact ⟨(t25),(t26),(x7000_1),(u7000),(by first | rfl | (simp;done) | (simp [*];done)),H',⟨Nat.le_refl _⟩,⟨by (with_reducible repeat (first | apply Kd.R_alloc | apply Kd.R_drewN | apply Kd.R_drew));exact Z7.out⟩,⟨by (with_reducible repeat (first | refine blk_drewN ?_ _ | refine blk_drew ?_ | refine blk_alloc ?_ _));exact BK1.out⟩,⟨by (with_reducible repeat (first | refine blk_drewN ?_ _ | refine blk_drew ?_ | refine blk_alloc ?_ _));exact BK2.out⟩,⟨by (with_reducible repeat (first | refine blk_drewN ?_ _ | refine blk_drew ?_ | refine blk_alloc ?_ _));exact BK6.out⟩,⟨is0_⟩,⟨hk_⟩,⟨hbi0_⟩⟩
    case round =>
     clear H'
     try clear c1
     try clear p2
     try clear c4
     try clear c6
     try clear p6
     try clear c10
     try clear c11
     try clear c12
     try clear c18
     try clear c18b0
     try clear hcz13_0
     try clear hfz13_0
     try clear p2
     obtain ⟨x7_2,x1001_2,x7000_2,u7000,rfl,HA,HK2,Z7,BK1,BK2,BK6,HI0,HK,HB⟩:=hrel
     cases gk with
     | zero=>exact absurd HA.out (by simp [spec_goodHeap.l1])
     | succ k2 =>
      have H:=HA.out
      clear HA
      simp only [spec_goodHeap.l1] at H
      have HC38:=a0_ H
      clear H
      go_upto_region 7 with (fail)
      go_cut [39] (fun v39 wc=>∃ (kq : Nat) (x39_37 : Bool),v39 = .bool x39_37 ∧ Aside0 (spec_goodHeap.j2 kq x7_2 x39_37 s0_0 x1001_2 x7000_2 = some (r1,r2)) ∧ Aside0 (kq ≤ k2) ∧ Aside0 (Kd.R k43 43 wc w.heap.size (fun _=>True) u7000 x7000_2) ∧ Aside0 (wc.heap[gb1]? = some (.cells #[(.slice A1_0 l1_0.length c1_0)] 25 (0,0))) ∧ Aside0 (wc.heap[gb2]? = some (.cells #[(.slice none 0 0)] 28 (0,0))) ∧ Aside0 (wc.heap[gb6]? = some (.cells #[u7000] 28 (0,0))) ∧ Aside0 (IsS76 w0 wc g s0_0 x1001_2) ∧ Aside0 (KeepBut w wc g none) ∧ Aside0 (Below w0.heap.size w0 wc))
      case first =>
       have H:=HC38.out
       clear HC38
       by_cases c39 : x7_2 > 0
       ·rw [if_pos c39] at H
        have c39b0 : decide (0 < x7_2) = true:=decide_eq_true c39
        clear c39
        (first | rw [c39b0] | (simp only [i64_w,i32_w];rw [c39b0]) | skip)
        have H':=a0_ H
        clear H
        have hnb40:=NB6_1.out
        have hnc40:=NB1_6.out
        have hnb41:=NB6_2.out
        have hnc41:=NB2_6.out
        have hnb42:=NB6_0.out
        have hnc42:=NB0_6.out
        have hcz43_0 : wr.cell? ⟨gb6,0,none⟩ = some (u7000):=(blk_cell BK6.out 0).trans rfl
        have hfz43_0:=blk_frozen BK6.out 0
        obtain ⟨Ao44,co44,eo44⟩:=Kd.R_slice Z7.out
        subst eo44
        go_wp2
        go_meet
        case rel=>exact ⟨_,(decide ((x7000_2.length : Int) > 1)),(by first | rfl | (simp;done) | (simp [*];done)),H',⟨by have:=HK1.out;have:=HK2.out;first | omega | exact Nat.le_refl _⟩,⟨by (with_reducible repeat (first | apply Kd.R_alloc | apply Kd.R_drewN | apply Kd.R_drew));exact Z7.out⟩,⟨by (with_reducible repeat (first | refine blk_drewN ?_ _ | refine blk_drew ?_ | refine blk_alloc ?_ _));exact BK1.out⟩,⟨by (with_reducible repeat (first | refine blk_drewN ?_ _ | refine blk_drew ?_ | refine blk_alloc ?_ _));exact BK2.out⟩,⟨by (with_reducible repeat (first | refine blk_drewN ?_ _ | refine blk_drew ?_ | refine blk_alloc ?_ _));exact BK6.out⟩,⟨is0_⟩,⟨hk_⟩,⟨hbi0_⟩⟩
       ·rw [if_neg c39] at H
        have c39b0 : decide (0 < x7_2) = false:=decide_eq_false c39
        clear c39
        (first | rw [c39b0] | (simp only [i64_w,i32_w];rw [c39b0]) | skip)
        have H':=a0_ H
        clear H
        go_wp2
        go_meet
        case rel=>exact ⟨_,(false),(by first | rfl | (simp;done) | (simp [*];done)),H',⟨by have:=HK1.out;have:=HK2.out;first | omega | exact Nat.le_refl _⟩,⟨by (with_reducible repeat (first | apply Kd.R_alloc | apply Kd.R_drewN | apply Kd.R_drew));exact Z7.out⟩,⟨by (with_reducible repeat (first | refine blk_drewN ?_ _ | refine blk_drew ?_ | refine blk_alloc ?_ _));exact BK1.out⟩,⟨by (with_reducible repeat (first | refine blk_drewN ?_ _ | refine blk_drew ?_ | refine blk_alloc ?_ _));exact BK2.out⟩,⟨by (with_reducible repeat (first | refine blk_drewN ?_ _ | refine blk_drew ?_ | refine blk_alloc ?_ _));exact BK6.out⟩,⟨is0_⟩,⟨hk_⟩,⟨hbi0_⟩⟩
      case rest =>
       clear HC38
       try clear c1
       try clear p2
       try clear c3
       try clear c4
       try clear c6
       try clear p6
       try clear c10
       try clear c11
       try clear c12
       try clear c18
       try clear c18b0
       try clear c39
       try clear c39b0
       try clear c40
       try clear c41
       try clear c42
       try clear hcz13_0
       try clear hcz43_0
       try clear hfz13_0
       try clear hfz43_0
       try clear p2
       try clear p6
       obtain ⟨kq,x39_37,rfl,HA,HJ37,Z7,BK1,BK2,BK6,HI0,HK,HB⟩:=hcut
       cases kq with
       | zero=>exact absurd HA.out (by simp [spec_goodHeap.j2])
       | succ kj37 =>
        have H:=HA.out
        clear HA
        simp only [spec_goodHeap.j2] at H
        by_cases c45 : x39_37 = true
        ·subst c45
         have H1 : ((spec_reader_pick.f kj37 s0_0 x1001_2 (x7000_2.length : Int)).bind fun bt27=>((spec_reader_pick.f kj37 s0_0 bt27.2 (x7000_2.length : Int)).bind fun bt29=>(if bt27.1 = bt29.1 then (if 0 ≤ bt27.1 then (if bt27.1 < (x7000_2.length : Int) then (spec_goodHeap.l1 kj37 (wrap64 (x7_2 - 1)) s0_0 bt29.2 (x7000_2.set (bt27.1 : Int).toNat (⟨(rd_T43 x7000_2 bt27.1).f0,(rd_T43 x7000_2 bt27.1).f1,(rd_T43 x7000_2 bt27.1).f2,(rd_T43 x7000_2 bt27.1).f3,!((rd_T43 x7000_2 bt27.1).f4)⟩ : S43))) else (none)) else (none)) else ((spec_reader_pick.f kj37 s0_0 bt29.2 3).bind fun bt33=>(if bt33.1 = 0 then (if 0 ≤ bt27.1 then (if bt27.1 < (x7000_2.length : Int) then ((some (x7000_2.set (bt27.1 : Int).toNat (⟨(rd_T43 x7000_2 bt27.1).f0,(rd_T43 x7000_2 bt27.1).f1,bt29.1,(rd_T43 x7000_2 bt27.1).f3,(rd_T43 x7000_2 bt27.1).f4⟩ : S43) : List (S43))).bind fun y35=>(spec_goodHeap.l1 kj37 (wrap64 (x7_2 - 1)) s0_0 bt33.2 (y35.set (bt27.1 : Int).toNat (⟨(rd_T43 y35 bt27.1).f0,(rd_T43 y35 bt27.1).f1,(rd_T43 y35 bt27.1).f2,(rd_T43 y35 bt27.1).f3,true⟩ : S43)))) else (none)) else (none)) else ((spec_raised.f kj37 x7000_2 bt27.1 bt29.1).bind fun t37=>(spec_goodHeap.l1 kj37 (wrap64 (x7_2 - 1)) s0_0 bt33.2 t37))))))) = some (r1,r2):=by rw [if_pos rfl] at H;exact H
         clear H
         have H:=H1
         clear H1
         replace H:=Option.bind_eq_some_iff.mp H
         obtain ⟨⟨t27,t28⟩,A460,H⟩:=H
         try dsimp only at H
         have A46:=a0_ A460
         clear A460
         replace H:=Option.bind_eq_some_iff.mp H
         obtain ⟨⟨t29,t30⟩,A470,H⟩:=H
         try dsimp only at H
         have A47:=a0_ A470
         clear A470
         by_cases c48 : t27 = t29
         ·rw [if_pos c48] at H
          have c48b0 : (t27 == t29) = true:=beq_iff_eq.mpr c48
          have c48b1 : (t27 != t29) = false:=bne_eq_false_iff_eq.mpr c48
          clear c48
          by_cases c49 : 0 ≤ t27
          ·rw [if_pos c49] at H
           have c49b0 : decide (0 ≤ t27) = true:=decide_eq_true c49
           clear c49
           by_cases c50 : t27 < (x7000_2.length : Int)
           ·rw [if_pos c50] at H
            have c50b0 : decide (t27 < (x7000_2.length : Int)) = true:=decide_eq_true c50
            clear c50
            obtain ⟨y32,hy32⟩ : ∃ y_ : List (S43),y_ = (x7000_2.set (t27 : Int).toNat (⟨(rd_T43 x7000_2 t27).f0,(rd_T43 x7000_2 t27).f1,(rd_T43 x7000_2 t27).f2,(rd_T43 x7000_2 t27).f3,!((rd_T43 x7000_2 t27).f4)⟩ : S43)):=⟨_,rfl⟩
            replace H : (spec_goodHeap.l1 kj37 (wrap64 (x7_2 - 1)) s0_0 t30 y32) = some (r1,r2):=by first | (rw [hy32];with_reducible exact H) | (have H2_:=(Option.bind_some _ _).symm.trans H;rw [hy32];with_reducible exact H2_) | (have H2_:=(Option.bind_some _ _).symm.trans H;with_reducible exact H2_) | with_reducible exact H | (rw [hy32];exact H) | exact H
            have Ny32:=a0_ hy32
            clear hy32
            have H':=a0_ H
            clear H
            have hnb52:=NB6_1.out
            have hnc52:=NB1_6.out
            have hnb53:=NB6_2.out
            have hnc53:=NB2_6.out
            have hnb54:=NB6_0.out
            have hnc54:=NB0_6.out
            have hcz55_0 : wc.cell? ⟨gb6,0,none⟩ = some (u7000):=(blk_cell BK6.out 0).trans rfl
            have hfz55_0:=blk_frozen BK6.out 0
            obtain ⟨Ao56,co56,eo56⟩:=Kd.R_slice Z7.out
            subst eo56
            try go_wp2_with (first | ((with_reducible refine gate_callee (f:=48) rfl ?_);refine goesL_ (some 46) rfl rfl Try.func48 (by kernel_rfl) rfl #[.pointer (some ⟨g,0,none⟩),.int .i64 (x7000_2.length : Int)] rfl lm_ ?_;(with_reducible refine (spec_reader_pick.calls kj37 g s0_0 x1001_2 (x7000_2.length : Int) t27 t28 w0 _ ?side1 ?side2 A46.out).mono ?_);(case side1=>exact is0_);(case side2=>exact hbi0_);rintro e w57 ⟨rfl,hi,hb,hk⟩;refine ⟨_,rfl,?_⟩;replace Z7:=a0_ (Kd.R_mono (Kd.R_keep (IsS76.apart (is0_ : IsS76 w0 _ g s0_0 x1001_2) (rr_ Z7.out) (by decide)) hk (fun _ h=>h.2)) (fun _ h=>h.1));replace BK1:=kk_ hk BK1 NB1_0;replace BK2:=kk_ hk BK2 NB2_0;replace BK6:=kk_ hk BK6 NB6_0;replace HK:=a0_ (KeepBut.trans (w:=w) hk_ hk (.inl rfl));replace HI0:=a0_ (hi);replace HB:=a0_ (hb);(try clear hb);have hcz58_0 : w57.cell? ⟨gb6,0,none⟩ = some (.slice Ao56 x7000_2.length co56):=(blk_cell BK6.out 0).trans rfl;have hfz58_0:=blk_frozen BK6.out 0) | ((with_reducible refine gate_callee (f:=48) rfl ?_);refine goesL_ (some 51) rfl rfl Try.func48 (by kernel_rfl) rfl #[.pointer (some ⟨g,0,none⟩),.int .i64 (x7000_2.length : Int)] rfl lm_ ?_;(with_reducible refine (spec_reader_pick.calls kj37 g s0_0 t28 (x7000_2.length : Int) t29 t30 w0 _ ?side1 ?side2 A47.out).mono ?_);(case side1=>exact is0_);(case side2=>exact hbi0_);rintro e w59 ⟨rfl,hi,hb,hk⟩;refine ⟨_,rfl,?_⟩;replace Z7:=a0_ (Kd.R_mono (Kd.R_keep (IsS76.apart (is0_ : IsS76 w0 _ g s0_0 t28) (rr_ Z7.out) (by decide)) hk (fun _ h=>h.2)) (fun _ h=>h.1));replace BK1:=kk_ hk BK1 NB1_0;replace BK2:=kk_ hk BK2 NB2_0;replace BK6:=kk_ hk BK6 NB6_0;replace HK:=a0_ (KeepBut.trans (w:=w) hk_ hk (.inl rfl));replace HI0:=a0_ (hi);replace HB:=a0_ (hb);(try clear hb);(try clear hb2);(try clear hk);(try clear hi)))
            have n0_:=a0_ (Kd.R_drew Z7.out)
            have n1_:=a0_ (blk_drew BK1.out)
            have n2_:=a0_ (blk_drew BK2.out)
            have n3_:=a0_ (blk_drew BK6.out)
            have n4_:=a0_ (IsS76.drew HI0.out)
            have n5_:=a0_ (keep_drew HK.out)
            have n6_:=a0_ (below_drew1 HB.out)
            clear Z7
            clear BK1
            clear BK2
            clear BK6
            clear HI0
            clear HK
            clear HB
            have Z7:=n0_
            have BK1:=n1_
            have BK2:=n2_
            have BK6:=n3_
            have HI0:=n4_
            have HK:=n5_
            have HB:=n6_
            clear n0_ n1_ n2_ n3_ n4_ n5_ n6_
            have p31 : 0 ≤ (t27 : Int):=of_decide_eq_true (by first | (with_reducible assumption) | assumption)
            have q31 : t27 < (x7000_2.length : Int):=of_decide_eq_true (by first | (with_reducible assumption) | assumption)
            obtain ⟨ad31,e31,hx31_0,hx31_1,hx31_2,hx31_3,hx31_4⟩:=at_T43 (Kd.R_reads' Z7.out).2.2 t27 p31 q31
            cases e31
            replace p31:=eq_true p31
            replace q31:=eq_true q31
            have p51 : 0 ≤ (t27 : Int):=of_decide_eq_true (by first | (with_reducible assumption) | assumption)
            have q51 : (t27 : Int) < ((x7000_2.length : Int) : Int):=of_decide_eq_true (by first | (with_reducible assumption) | assumption)
            obtain ⟨go51,co51,eo51,gb51,gl51,cl51,HG51⟩:=Kd.R_form Z7.out (by omega)
            (first | cases eo51 | (injection eo51 with ea_ en_ ec_;(first | subst ea_ | (injection ea_ with ea_;subst ea_));subst ec_;clear en_))
            have GB51:=a0_ gb51
            have GG51:=a0_ HG51
            clear gb51 gl51 HG51
            (first | simp only [add_plain] at hx31_0 | skip)
            (first | simp only [add_plain] at hx31_1 | skip)
            (first | simp only [add_plain] at hx31_2 | skip)
            (first | simp only [add_plain] at hx31_3 | skip)
            (first | simp only [add_plain] at hx31_4 | skip)
            obtain ⟨ce51,hcl51,hM51,hcc51,hfr51⟩:=Kd.R_elem Z7.out z43 (t27 : Int) p51 q51
            obtain rfl:=k43_openM hM51
            have hx51_0 : World.cell? _ ⟨go51,(t27 : Int).toNat * 5,none⟩ = some (.int .i64 ((rd_T43 x7000_2 t27).f0)):=hcc51 0 _ rfl
            have hx51_1 : World.cell? _ ⟨go51,(t27 : Int).toNat * 5 + 1,none⟩ = some (.int .i64 ((rd_T43 x7000_2 t27).f1)):=hcc51 1 _ rfl
            have hx51_2 : World.cell? _ ⟨go51,(t27 : Int).toNat * 5 + 2,none⟩ = some (.int .i64 ((rd_T43 x7000_2 t27).f2)):=hcc51 2 _ rfl
            have hx51_3 : World.cell? _ ⟨go51,(t27 : Int).toNat * 5 + 3,none⟩ = some (.int .i64 ((rd_T43 x7000_2 t27).f3)):=hcc51 3 _ rfl
            have hx51_4 : World.cell? _ ⟨go51,(t27 : Int).toNat * 5 + 4,none⟩ = some (.bool ((rd_T43 x7000_2 t27).f4)):=hcc51 4 _ rfl
            have hf51_0 : World.frozen? _ ⟨go51,(t27 : Int).toNat * 5,none⟩ = false:=hfr51 0
            have hf51_1 : World.frozen? _ ⟨go51,(t27 : Int).toNat * 5 + 1,none⟩ = false:=hfr51 1
            have hf51_2 : World.frozen? _ ⟨go51,(t27 : Int).toNat * 5 + 2,none⟩ = false:=hfr51 2
            have hf51_3 : World.frozen? _ ⟨go51,(t27 : Int).toNat * 5 + 3,none⟩ = false:=hfr51 3
            have hf51_4 : World.frozen? _ ⟨go51,(t27 : Int).toNat * 5 + 4,none⟩ = false:=hfr51 4
            clear hcl51 hcc51 hfr51 hM51
            replace p51:=eq_true p51
            replace q51:=eq_true q51
            have HN0_go51:=a0_ (show g ≠ go51 from by have h_:=IsS76.own_ne HI0.out Z7.out (by decide);intro e_;exact h_ (by rw [e_];rfl))
            obtain ⟨ce61,hcl61,hM61,hcc61,hfr61⟩:=Kd.R_elem Z7.out z43 (t27 : Int) (of_decide_eq_true (by first | (with_reducible assumption) | assumption)) (by have h_ : (t27 : Int) < ((x7000_2.length : Int) : Int):=of_decide_eq_true (by first | (with_reducible assumption) | assumption);first | exact h_ | (have e_:=(Kd.R_reads' Z7.out).1;omega) | simpa using h_)
            obtain rfl:=k43_openM hM61
            have HP61:=(Kd.R_seg Z7.out (t27 : Int) (of_decide_eq_true (by first | (with_reducible assumption) | assumption)) (by have h_ : (t27 : Int) < ((x7000_2.length : Int) : Int):=of_decide_eq_true (by first | (with_reducible assumption) | assumption);first | exact h_ | (have e_:=(Kd.R_reads' Z7.out).1;omega) | simpa using h_) (seg:=[.bool (!((rd_T43 x7000_2 t27).f4))]) (j:=4) hcl61 hcc61 (show 5 ≤ 5 from by decide) (x':=(⟨(rd_T43 x7000_2 t27).f0,(rd_T43 x7000_2 t27).f1,(rd_T43 x7000_2 t27).f2,(rd_T43 x7000_2 t27).f3,!((rd_T43 x7000_2 t27).f4)⟩ : S43)) (k43_mkM _ _ _ (⟨(rd_T43 x7000_2 t27).f0,(rd_T43 x7000_2 t27).f1,(rd_T43 x7000_2 t27).f2,(rd_T43 x7000_2 t27).f3,!((rd_T43 x7000_2 t27).f4)⟩ : S43) ) (fun _ hk=>hk)).1
            rw [← Ny32.out] at HP61
            have HQ61:=a0_ HP61
            clear hcl61 hcc61 hfr61 hM61 HP61
            refine start_ (n:=13) (S:=fun w'=>w'.cell? ⟨gb6,0,none⟩ = some (.slice (some ⟨go51,0,none⟩) x7000_2.length co56) ∧ w'.cell? ⟨go51,((t27).toNat * 5),none⟩ = some (.int .i64 ((rd_T43 x7000_2 t27).f0)) ∧ w'.cell? ⟨go51,((t27).toNat * 5) + 1,none⟩ = some (.int .i64 ((rd_T43 x7000_2 t27).f1)) ∧ w'.cell? ⟨go51,((t27).toNat * 5) + 2,none⟩ = some (.int .i64 ((rd_T43 x7000_2 t27).f2)) ∧ w'.cell? ⟨go51,((t27).toNat * 5) + 3,none⟩ = some (.int .i64 ((rd_T43 x7000_2 t27).f3)) ∧ w'.cell? ⟨go51,((t27).toNat * 5) + 4,none⟩ = some (.bool ((rd_T43 x7000_2 t27).f4))) (ds:=[12]) #[false,false,false,false,false,false,false,false,false,false,false,false,false] (by kernel_rfl) rfl rfl ⟨(blk_cell BK6.out 0).trans rfl,hx31_0,hx31_1,hx31_2,hx31_3,hx31_4⟩ (fun hHeld=>?_);refine with_tabW spec_goodHeap.tab13 spec_goodHeap.bits13 (fun HT_ HW_=>?_)
            generalize w59.drew = w60 at Z7 BK1 BK2 BK6 HI0 HK HB GG51 HQ61 hf51_0 hf51_1 hf51_2 hf51_3 hf51_4 hx31_0 hx31_1 hx31_2 hx31_3 hx31_4 hx51_0 hx51_1 hx51_2 hx51_3 hx51_4 hHeld ⊢
            refine pure_ (i:=0) (N:=some 60) (v:=?_) (a':=?_) #[true,false,false,false,false,false,false,false,false,false,false,false,false] rfl rfl (any_of HT_.out (by kernel_rfl)) (fun _ _ _ h=>h) (Or.inl ⟨by rfl,?_⟩) ?_ ?_
            rotate_left
            ·intro w'
             go_simp
             with_reducible rfl
            rotate_left
            ·simp only [Act.put,s1_,s2_,s3_,i64_w,i32_w]
             rfl
            refine pure_ (i:=2) (N:=some 62) (v:=?_) (a':=?_) #[true,false,true,false,false,false,false,false,false,false,false,false,false] rfl rfl (any_of HT_.out (by kernel_rfl)) (fun _ _ _ h=>h) (Or.inl ⟨by rfl,?_⟩) ?_ ?_
            rotate_left
            ·intro w'
             go_simp
             with_reducible rfl
            rotate_left
            ·simp only [Act.put,s1_,s2_,s3_,i64_w,i32_w]
             rfl
            refine pure_ (i:=3) (N:=some 63) (v:=?_) (a':=?_) #[true,false,true,true,false,false,false,false,false,false,false,false,false] rfl rfl (any_of HT_.out (by kernel_rfl)) (fun _ _ _ h=>h) (Or.inl ⟨by rfl,?_⟩) ?_ ?_
            rotate_left
            ·intro w'
             go_simp
             with_reducible rfl
            rotate_left
            ·simp only [Act.put,s1_,s2_,s3_,i64_w,i32_w]
             rfl
            refine pure_ (i:=5) (N:=some 65) (v:=?_) (a':=?_) #[true,false,true,true,false,true,false,false,false,false,false,false,false] rfl rfl (any_of HT_.out (by kernel_rfl)) (fun _ _ _ h=>h) (Or.inl ⟨by rfl,?_⟩) ?_ ?_
            rotate_left
            ·intro w'
             go_simp
             with_reducible rfl
            rotate_left
            ·simp only [Act.put,s1_,s2_,s3_,i64_w,i32_w]
             rfl
            refine take_ (i:=1) (N:=some 61) (v:=?_) (a':=?_) #[true,true,true,true,false,true,false,false,false,false,false,false,false] rfl rfl (take_ofW HT_.out HW_.out (by kernel_rfl)) (fun _ _ _ h=>h) (Or.inl ⟨by rfl,?_⟩) hHeld ?_ ?_
            rotate_left
            ·rintro w' ⟨s0,s1,s2,s3,s4,s5⟩
             go_simp
             with_reducible rfl
            rotate_left
            ·simp only [Act.put,s1_,s2_,s3_,i64_w,i32_w]
             rfl
            refine take_ (i:=4) (N:=some 64) (v:=?_) (a':=?_) #[true,true,true,true,true,true,false,false,false,false,false,false,false] rfl rfl (take_ofW HT_.out HW_.out (by kernel_rfl)) (fun _ _ _ h=>h) (Or.inl ⟨by rfl,?_⟩) hHeld ?_ ?_
            rotate_left
            ·rintro w' ⟨s0,s1,s2,s3,s4,s5⟩
             go_simp
             with_reducible rfl
            rotate_left
            ·simp only [Act.put,s1_,s2_,s3_,i64_w,i32_w]
             rfl
            refine pure_ (i:=6) (N:=some 66) (v:=?_) (a':=?_) #[true,true,true,true,true,true,true,false,false,false,false,false,false] rfl rfl (any_of HT_.out (by kernel_rfl)) (fun _ _ _ h=>h) (Or.inl ⟨by rfl,?_⟩) ?_ ?_
            rotate_left
            ·intro w'
             go_simp
             with_reducible rfl
            rotate_left
            ·simp only [Act.put,s1_,s2_,s3_,i64_w,i32_w]
             rfl
            refine pure_ (i:=7) (N:=some 67) (v:=?_) (a':=?_) #[true,true,true,true,true,true,true,true,false,false,false,false,false] rfl rfl (any_of HT_.out (by kernel_rfl)) (fun _ _ _ h=>h) (Or.inl ⟨by rfl,?_⟩) ?_ ?_
            rotate_left
            ·intro w'
             go_simp
             with_reducible rfl
            rotate_left
            ·simp only [Act.put,s1_,s2_,s3_,i64_w,i32_w]
             rfl
            refine take_ (i:=8) (N:=some 68) (v:=?_) (a':=?_) #[true,true,true,true,true,true,true,true,true,false,false,false,false] rfl rfl (take_ofW HT_.out HW_.out (by kernel_rfl)) (fun _ _ _ h=>h) (Or.inl ⟨by rfl,?_⟩) hHeld ?_ ?_
            rotate_left
            ·rintro w' ⟨s0,s1,s2,s3,s4,s5⟩
             go_simp
             with_reducible rfl
            rotate_left
            ·simp only [Act.put,s1_,s2_,s3_,i64_w,i32_w]
             rfl
            refine pure_ (i:=9) (N:=some 69) (v:=?_) (a':=?_) #[true,true,true,true,true,true,true,true,true,true,false,false,false] rfl rfl (any_of HT_.out (by kernel_rfl)) (fun _ _ _ h=>h) (Or.inl ⟨by rfl,?_⟩) ?_ ?_
            rotate_left
            ·intro w'
             go_simp
             with_reducible rfl
            rotate_left
            ·simp only [Act.put,s1_,s2_,s3_,i64_w,i32_w]
             rfl
            refine pure_ (i:=10) (N:=some 70) (v:=?_) (a':=?_) #[true,true,true,true,true,true,true,true,true,true,true,false,false] rfl rfl (any_of HT_.out (by kernel_rfl)) (fun _ _ _ h=>h) (Or.inl ⟨by rfl,?_⟩) ?_ ?_
            rotate_left
            ·intro w'
             go_simp
             with_reducible rfl
            rotate_left
            ·simp only [Act.put,s1_,s2_,s3_,i64_w,i32_w]
             rfl
            refine pure_ (i:=11) (N:=some 71) (v:=?_) (a':=?_) #[true,true,true,true,true,true,true,true,true,true,true,true,false] rfl rfl (any_of HT_.out (by kernel_rfl)) (fun _ _ _ h=>h) (Or.inl ⟨by rfl,?_⟩) ?_ ?_
            rotate_left
            ·intro w'
             go_simp
             with_reducible rfl
            rotate_left
            ·simp only [Act.put,s1_,s2_,s3_,i64_w,i32_w]
             rfl
            refine last_ (i:=12) (N:=none) #[true,true,true,true,true,true,true,true,true,true,true,true,true] rfl rfl (one_of HT_.out (by kernel_rfl)) (by decide) (fun K hK=>?_)
            refine skip_ (w1:=?_) (by rfl) rfl ?_ ?_
            rotate_left
            ·go_simp
             rfl
            refine hK.out _ _ ?_
            clear hK K
            refine done_ (done_of HT_.out (by kernel_rfl)) ?_
            try go_wp2
            go_roundg kj37
            case measure=>have:=HK1.out;have:=HK2.out;have:=HJ37.out;omega
            case rel=>exact ⟨(wrap64 (x7_2 - 1)),(t30),(y32),(.slice (some ⟨go51,0,none⟩) x7000_2.length co56),(by first | rfl | (simp;done) | (simp [*];done)),H',⟨by have:=HK1.out;have:=HK2.out;have:=HJ37.out;omega⟩,⟨by (with_reducible repeat (first | apply Kd.R_alloc | apply Kd.R_drewN | apply Kd.R_drew));exact HQ61.out⟩,⟨by (with_reducible repeat (first | refine blk_drewN ?_ _ | refine blk_drew ?_ | refine blk_alloc ?_ _));refine blk_far ?_ (by have h_:=Kd.R_ne Z7.out BK1.out (by decide);intro e_;exact h_ (by rw [e_];rfl)) _;(with_reducible repeat (first | refine blk_drewN ?_ _ | refine blk_drew ?_ | refine blk_alloc ?_ _));exact BK1.out⟩,⟨by (with_reducible repeat (first | refine blk_drewN ?_ _ | refine blk_drew ?_ | refine blk_alloc ?_ _));refine blk_far ?_ (by have h_:=Kd.R_ne Z7.out BK2.out (by decide);intro e_;exact h_ (by rw [e_];rfl)) _;(with_reducible repeat (first | refine blk_drewN ?_ _ | refine blk_drew ?_ | refine blk_alloc ?_ _));exact BK2.out⟩,⟨by (with_reducible repeat (first | refine blk_drewN ?_ _ | refine blk_drew ?_ | refine blk_alloc ?_ _));refine blk_far ?_ (by have h_:=Kd.R_ne Z7.out BK6.out (by decide);intro e_;exact h_ (by rw [e_];rfl)) _;(with_reducible repeat (first | refine blk_drewN ?_ _ | refine blk_drew ?_ | refine blk_alloc ?_ _));exact BK6.out⟩,⟨is0_⟩,⟨hk_⟩,⟨by repeat (first | (with_reducible first | exact HB.out | apply below_alloc | apply pw_below_drewN | apply below_drew1 | refine below_set ?_ (Nat.le_trans HL.out GB51.out) | refine below_set ?_ (IsS76.ge HI0.out) | refine below_set ?_ GE1.out | refine below_set ?_ GE2.out | refine below_set ?_ GE6.out) | exact HB.out)⟩⟩
           ·rw [if_neg c50] at H
            exact absurd H (by simp)
          ·rw [if_neg c49] at H
           exact absurd H (by simp)
         ·rw [if_neg c48] at H
          have c48b0 : (t27 == t29) = false:=beq_eq_false_iff_ne.mpr c48
          have c48b1 : (t27 != t29) = true:=bne_iff_ne.mpr c48
          replace H:=Option.bind_eq_some_iff.mp H
          obtain ⟨⟨t33,t34⟩,A620,H⟩:=H
          try dsimp only at H
          have A62:=a0_ A620
          clear A620
          by_cases c63 : t33 = 0
          ·rw [if_pos c63] at H
           have c63b0 : (t33 == 0) = true:=beq_iff_eq.mpr c63
           have c63b1 : (t33 != 0) = false:=bne_eq_false_iff_eq.mpr c63
           clear c63
           by_cases c64 : 0 ≤ t27
           ·rw [if_pos c64] at H
            have c64b0 : decide (0 ≤ t27) = true:=decide_eq_true c64
            clear c64
            by_cases c65 : t27 < (x7000_2.length : Int)
            ·rw [if_pos c65] at H
             have c65b0 : decide (t27 < (x7000_2.length : Int)) = true:=decide_eq_true c65
             clear c65
             obtain ⟨y35,hy35⟩ : ∃ y_ : List (S43),y_ = (x7000_2.set (t27 : Int).toNat (⟨(rd_T43 x7000_2 t27).f0,(rd_T43 x7000_2 t27).f1,t29,(rd_T43 x7000_2 t27).f3,(rd_T43 x7000_2 t27).f4⟩ : S43)):=⟨_,rfl⟩
             replace H : (spec_goodHeap.l1 kj37 (wrap64 (x7_2 - 1)) s0_0 t34 (y35.set (t27 : Int).toNat (⟨(rd_T43 y35 t27).f0,(rd_T43 y35 t27).f1,(rd_T43 y35 t27).f2,(rd_T43 y35 t27).f3,true⟩ : S43))) = some (r1,r2):=by first | (rw [hy35];with_reducible exact H) | (have H2_:=(Option.bind_some _ _).symm.trans H;rw [hy35];with_reducible exact H2_) | (have H2_:=(Option.bind_some _ _).symm.trans H;with_reducible exact H2_) | with_reducible exact H | (rw [hy35];exact H) | exact H
             have Ny35:=a0_ hy35
             clear hy35
             obtain ⟨y36,hy36⟩ : ∃ y_ : List (S43),y_ = (y35.set (t27 : Int).toNat (⟨(rd_T43 y35 t27).f0,(rd_T43 y35 t27).f1,(rd_T43 y35 t27).f2,(rd_T43 y35 t27).f3,true⟩ : S43)):=⟨_,rfl⟩
             replace H : (spec_goodHeap.l1 kj37 (wrap64 (x7_2 - 1)) s0_0 t34 y36) = some (r1,r2):=by first | (rw [hy36];with_reducible exact H) | (have H2_:=(Option.bind_some _ _).symm.trans H;rw [hy36];with_reducible exact H2_) | (have H2_:=(Option.bind_some _ _).symm.trans H;with_reducible exact H2_) | with_reducible exact H | (rw [hy36];exact H) | exact H
             have Ny36:=a0_ hy36
             clear hy36
             have H':=a0_ H
             clear H
             have hnb68:=NB6_1.out
             have hnc68:=NB1_6.out
             have hnb69:=NB6_2.out
             have hnc69:=NB2_6.out
             have hnb70:=NB6_0.out
             have hnc70:=NB0_6.out
             have hcz71_0 : wc.cell? ⟨gb6,0,none⟩ = some (u7000):=(blk_cell BK6.out 0).trans rfl
             have hfz71_0:=blk_frozen BK6.out 0
             obtain ⟨Ao72,co72,eo72⟩:=Kd.R_slice Z7.out
             subst eo72
             go_wp2_with (first | ((with_reducible refine gate_callee (f:=48) rfl ?_);refine goesL_ (some 46) rfl rfl Try.func48 (by kernel_rfl) rfl #[.pointer (some ⟨g,0,none⟩),.int .i64 (x7000_2.length : Int)] rfl lm_ ?_;(with_reducible refine (spec_reader_pick.calls kj37 g s0_0 x1001_2 (x7000_2.length : Int) t27 t28 w0 _ ?side1 ?side2 A46.out).mono ?_);(case side1=>exact is0_);(case side2=>exact hbi0_);rintro e w73 ⟨rfl,hi,hb,hk⟩;refine ⟨_,rfl,?_⟩;replace Z7:=a0_ (Kd.R_mono (Kd.R_keep (IsS76.apart (is0_ : IsS76 w0 _ g s0_0 x1001_2) (rr_ Z7.out) (by decide)) hk (fun _ h=>h.2)) (fun _ h=>h.1));replace BK1:=kk_ hk BK1 NB1_0;replace BK2:=kk_ hk BK2 NB2_0;replace BK6:=kk_ hk BK6 NB6_0;replace HK:=a0_ (KeepBut.trans (w:=w) hk_ hk (.inl rfl));replace HI0:=a0_ (hi);replace HB:=a0_ (hb);(try clear hb);have hcz74_0 : w73.cell? ⟨gb6,0,none⟩ = some (.slice Ao72 x7000_2.length co72):=(blk_cell BK6.out 0).trans rfl;have hfz74_0:=blk_frozen BK6.out 0) | ((with_reducible refine gate_callee (f:=48) rfl ?_);refine goesL_ (some 51) rfl rfl Try.func48 (by kernel_rfl) rfl #[.pointer (some ⟨g,0,none⟩),.int .i64 (x7000_2.length : Int)] rfl lm_ ?_;(with_reducible refine (spec_reader_pick.calls kj37 g s0_0 t28 (x7000_2.length : Int) t29 t30 w0 _ ?side1 ?side2 A47.out).mono ?_);(case side1=>exact is0_);(case side2=>exact hbi0_);rintro e w75 ⟨rfl,hi,hb,hk⟩;refine ⟨_,rfl,?_⟩;replace Z7:=a0_ (Kd.R_mono (Kd.R_keep (IsS76.apart (is0_ : IsS76 w0 _ g s0_0 t28) (rr_ Z7.out) (by decide)) hk (fun _ h=>h.2)) (fun _ h=>h.1));replace BK1:=kk_ hk BK1 NB1_0;replace BK2:=kk_ hk BK2 NB2_0;replace BK6:=kk_ hk BK6 NB6_0;replace HK:=a0_ (KeepBut.trans (w:=w) hk_ hk (.inl rfl));replace HI0:=a0_ (hi);replace HB:=a0_ (hb);(try clear hb);(try clear hb2);(try clear hk);(try clear hi)) | ((with_reducible refine gate_callee (f:=48) rfl ?_);refine goesL_ (some 74) rfl rfl Try.func48 (by kernel_rfl) rfl #[.pointer (some ⟨g,0,none⟩),.int .i64 3] rfl lm_ ?_;(with_reducible refine (spec_reader_pick.calls kj37 g s0_0 t30 3 t33 t34 w0 _ ?side1 ?side2 A62.out).mono ?_);(case side1=>exact is0_);(case side2=>exact hbi0_);rintro e w76 ⟨rfl,hi,hb,hk⟩;refine ⟨_,rfl,?_⟩;replace Z7:=a0_ (Kd.R_mono (Kd.R_keep (IsS76.apart (is0_ : IsS76 w0 _ g s0_0 t30) (rr_ Z7.out) (by decide)) hk (fun _ h=>h.2)) (fun _ h=>h.1));replace BK1:=kk_ hk BK1 NB1_0;replace BK2:=kk_ hk BK2 NB2_0;replace BK6:=kk_ hk BK6 NB6_0;replace HK:=a0_ (KeepBut.trans (w:=w) hk_ hk (.inl rfl));replace HI0:=a0_ (hi);replace HB:=a0_ (hb);(try clear hb);have hcz77_0 : w76.cell? ⟨gb6,0,none⟩ = some (.slice Ao72 x7000_2.length co72):=(blk_cell BK6.out 0).trans rfl;have hfz77_0:=blk_frozen BK6.out 0;have p66 : 0 ≤ (t27 : Int):=of_decide_eq_true (by first | (with_reducible assumption) | assumption);have q66 : (t27 : Int) < ((x7000_2.length : Int) : Int):=of_decide_eq_true (by first | (with_reducible assumption) | assumption);obtain ⟨go66,co66,eo66,gb66,gl66,cl66,HG66⟩:=Kd.R_form Z7.out (by omega);(first | cases eo66 | (injection eo66 with ea_ en_ ec_;(first | subst ea_ | (injection ea_ with ea_;subst ea_));subst ec_;clear en_));have GB66:=a0_ gb66;have GG66:=a0_ HG66;clear gb66 gl66 HG66;obtain ⟨ce66,hcl66,hM66,hcc66,hfr66⟩:=Kd.R_elem Z7.out z43 (t27 : Int) p66 q66;obtain rfl:=k43_openM hM66;have hx66_0 : w76.cell? ⟨go66,(t27 : Int).toNat * 5,none⟩ = some (.int .i64 ((rd_T43 x7000_2 t27).f0)):=hcc66 0 _ rfl;have hx66_1 : w76.cell? ⟨go66,(t27 : Int).toNat * 5 + 1,none⟩ = some (.int .i64 ((rd_T43 x7000_2 t27).f1)):=hcc66 1 _ rfl;have hx66_2 : w76.cell? ⟨go66,(t27 : Int).toNat * 5 + 2,none⟩ = some (.int .i64 ((rd_T43 x7000_2 t27).f2)):=hcc66 2 _ rfl;have hx66_3 : w76.cell? ⟨go66,(t27 : Int).toNat * 5 + 3,none⟩ = some (.int .i64 ((rd_T43 x7000_2 t27).f3)):=hcc66 3 _ rfl;have hx66_4 : w76.cell? ⟨go66,(t27 : Int).toNat * 5 + 4,none⟩ = some (.bool ((rd_T43 x7000_2 t27).f4)):=hcc66 4 _ rfl;have hf66_0 : w76.frozen? ⟨go66,(t27 : Int).toNat * 5,none⟩ = false:=hfr66 0;have hf66_1 : w76.frozen? ⟨go66,(t27 : Int).toNat * 5 + 1,none⟩ = false:=hfr66 1;have hf66_2 : w76.frozen? ⟨go66,(t27 : Int).toNat * 5 + 2,none⟩ = false:=hfr66 2;have hf66_3 : w76.frozen? ⟨go66,(t27 : Int).toNat * 5 + 3,none⟩ = false:=hfr66 3;have hf66_4 : w76.frozen? ⟨go66,(t27 : Int).toNat * 5 + 4,none⟩ = false:=hfr66 4;clear hcl66 hcc66 hfr66 hM66;replace p66:=eq_true p66;replace q66:=eq_true q66;have HX78:=a0_ (show Kd.R k43 43 w76 w.heap.size (fun _=>True) (.slice (some ⟨go66,0,none⟩) x7000_2.length co72) x7000_2 from (rr_ Z7.out));obtain ⟨ce78,hcl78,hM78,hcc78,hfr78⟩:=Kd.R_elem HX78.out z43 (t27 : Int) (of_decide_eq_true (by first | (with_reducible assumption) | assumption)) (by have h_ : (t27 : Int) < ((x7000_2.length : Int) : Int):=of_decide_eq_true (by first | (with_reducible assumption) | assumption);first | exact h_ | (have e_:=(Kd.R_reads' Z7.out).1;omega) | simpa using h_);obtain rfl:=k43_openM hM78;have HP78:=Kd.R_seg HX78.out (t27 : Int) (of_decide_eq_true (by first | (with_reducible assumption) | assumption)) (by have h_ : (t27 : Int) < ((x7000_2.length : Int) : Int):=of_decide_eq_true (by first | (with_reducible assumption) | assumption);first | exact h_ | (have e_:=(Kd.R_reads' Z7.out).1;omega) | simpa using h_) (seg:=[.int .i64 t29]) (j:=2) hcl78 hcc78 (show 3 ≤ 5 from by decide) (x':=(⟨(rd_T43 x7000_2 t27).f0,(rd_T43 x7000_2 t27).f1,t29,(rd_T43 x7000_2 t27).f3,(rd_T43 x7000_2 t27).f4⟩ : S43)) (k43_mkM _ _ _ (⟨(rd_T43 x7000_2 t27).f0,(rd_T43 x7000_2 t27).f1,t29,(rd_T43 x7000_2 t27).f3,(rd_T43 x7000_2 t27).f4⟩ : S43) ) (fun _ hk=>hk);have hx78_2:=hcc78 2 _ rfl;(try simp only [show (k43).sz = 5 from rfl,Nat.mul_one,Nat.add_zero] at hx78_2);have hf78_2:=hfr78 2;(try simp only [show (k43).sz = 5 from rfl,Nat.mul_one,Nat.add_zero] at hf78_2);clear hcl78 hcc78 hfr78 hM78) | ((with_reducible refine gate_store (t:=3) (p:=81) rfl ?_);refine store_event (t:=3) (p:=81) (v:=?vo_w79) (w1:=(w76.setCell ⟨go66,(t27 : Int).toNat * 5 + 2,none⟩ (.int .i64 t29))) ?hg ?ho ?hn ?hr ?_;(case ho=>rfl);(case hg=>rfl);(case hn=>rfl);(case hr=>first | (go_simp;done) | (go_simp;rfl));intro w79 hw;have hg : w76.grownBy w79 (some go66):=(by rw [hw];exact HP78.2);have hp_ : Kd.R k43 43 w79 w.heap.size (fun _=>True) (.slice (some ⟨go66,0,none⟩) x7000_2.length co72) y35:=(by rw [hw,Ny35.out];exact HP78.1);clear HP78;have n0_:=a0_ (hp_);have n1_:=a0_ (blk_grown (bb_ BK1.out) hg (Kd.R_ne Z7.out BK1.out (by decide)));have n2_:=a0_ (blk_grown (bb_ BK2.out) hg (Kd.R_ne Z7.out BK2.out (by decide)));have n3_:=a0_ (blk_grown (bb_ BK6.out) hg (Kd.R_ne Z7.out BK6.out (by decide)));have n4_:=a0_ (IsS76.grown is0_ hg (IsS76.own_ne HI0.out Z7.out (by decide)));have n5_:=a0_ ((by rw [hw];exact below_set (HB.out) (Nat.le_trans HL.out GB66.out) : Below w0.heap.size w0 w79));have n6_:=a0_ (KeepBut.trans (w:=w) hk_ (KeepBut.of_grown hg g) (Kd.R_base2 Z7.out));clear Z7 BK1;clear BK2 BK6;clear HI0 HB HK;have Z7:=n0_;have BK1:=n1_;have BK2:=n2_;have BK6:=n3_;have HI0:=n4_;have HB:=n5_;have HK:=n6_;clear n0_ n1_ n2_ n3_ n4_ n5_ n6_;clear hg hw hp_;have hcz80_0 : w79.cell? ⟨gb6,0,none⟩ = some (.slice (some ⟨go66,0,none⟩) x7000_2.length co72):=(blk_cell BK6.out 0).trans rfl;have hfz80_0:=blk_frozen BK6.out 0;have p67 : 0 ≤ (t27 : Int):=of_decide_eq_true (by first | (with_reducible assumption) | assumption);have q67 : (t27 : Int) < ((x7000_2.length : Int) : Int):=of_decide_eq_true (by first | (with_reducible assumption) | assumption);obtain ⟨ce67,hcl67,hM67,hcc67,hfr67⟩:=Kd.R_elem Z7.out z43 (t27 : Int) p67 q67;obtain rfl:=k43_openM hM67;have hx67_0 : w79.cell? ⟨go66,(t27 : Int).toNat * 5,none⟩ = some (.int .i64 ((rd_T43 y35 t27).f0)):=hcc67 0 _ rfl;have hx67_1 : w79.cell? ⟨go66,(t27 : Int).toNat * 5 + 1,none⟩ = some (.int .i64 ((rd_T43 y35 t27).f1)):=hcc67 1 _ rfl;have hx67_2 : w79.cell? ⟨go66,(t27 : Int).toNat * 5 + 2,none⟩ = some (.int .i64 ((rd_T43 y35 t27).f2)):=hcc67 2 _ rfl;have hx67_3 : w79.cell? ⟨go66,(t27 : Int).toNat * 5 + 3,none⟩ = some (.int .i64 ((rd_T43 y35 t27).f3)):=hcc67 3 _ rfl;have hx67_4 : w79.cell? ⟨go66,(t27 : Int).toNat * 5 + 4,none⟩ = some (.bool ((rd_T43 y35 t27).f4)):=hcc67 4 _ rfl;have hf67_0 : w79.frozen? ⟨go66,(t27 : Int).toNat * 5,none⟩ = false:=hfr67 0;have hf67_1 : w79.frozen? ⟨go66,(t27 : Int).toNat * 5 + 1,none⟩ = false:=hfr67 1;have hf67_2 : w79.frozen? ⟨go66,(t27 : Int).toNat * 5 + 2,none⟩ = false:=hfr67 2;have hf67_3 : w79.frozen? ⟨go66,(t27 : Int).toNat * 5 + 3,none⟩ = false:=hfr67 3;have hf67_4 : w79.frozen? ⟨go66,(t27 : Int).toNat * 5 + 4,none⟩ = false:=hfr67 4;clear hcl67 hcc67 hfr67 hM67;replace p67:=eq_true p67;replace q67:=eq_true q67;have HX81:=a0_ (show Kd.R k43 43 w79 w.heap.size (fun _=>True) (.slice (some ⟨go66,0,none⟩) x7000_2.length co72) y35 from (rr_ Z7.out));obtain ⟨ce81,hcl81,hM81,hcc81,hfr81⟩:=Kd.R_elem HX81.out z43 (t27 : Int) (of_decide_eq_true (by first | (with_reducible assumption) | assumption)) (by have h_ : (t27 : Int) < ((x7000_2.length : Int) : Int):=of_decide_eq_true (by first | (with_reducible assumption) | assumption);first | exact h_ | (have e_:=(Kd.R_reads' Z7.out).1;omega) | simpa using h_);obtain rfl:=k43_openM hM81;have HP81:=Kd.R_seg HX81.out (t27 : Int) (of_decide_eq_true (by first | (with_reducible assumption) | assumption)) (by have h_ : (t27 : Int) < ((x7000_2.length : Int) : Int):=of_decide_eq_true (by first | (with_reducible assumption) | assumption);first | exact h_ | (have e_:=(Kd.R_reads' Z7.out).1;omega) | simpa using h_) (seg:=[.bool true]) (j:=4) hcl81 hcc81 (show 5 ≤ 5 from by decide) (x':=(⟨(rd_T43 y35 t27).f0,(rd_T43 y35 t27).f1,(rd_T43 y35 t27).f2,(rd_T43 y35 t27).f3,true⟩ : S43)) (k43_mkM _ _ _ (⟨(rd_T43 y35 t27).f0,(rd_T43 y35 t27).f1,(rd_T43 y35 t27).f2,(rd_T43 y35 t27).f3,true⟩ : S43) ) (fun _ hk=>hk);have hx81_4:=hcc81 4 _ rfl;(try simp only [show (k43).sz = 5 from rfl,Nat.mul_one,Nat.add_zero] at hx81_4);have hf81_4:=hfr81 4;(try simp only [show (k43).sz = 5 from rfl,Nat.mul_one,Nat.add_zero] at hf81_4);clear hcl81 hcc81 hfr81 hM81) | ((with_reducible refine gate_store (t:=4) (p:=86) rfl ?_);refine store_event (t:=4) (p:=86) (v:=?vo_w82) (w1:=(w79.setCell ⟨go66,(t27 : Int).toNat * 5 + 4,none⟩ (.bool true))) ?hg ?ho ?hn ?hr ?_;(case ho=>rfl);(case hg=>rfl);(case hn=>rfl);(case hr=>first | (go_simp;done) | (go_simp;rfl));intro w82 hw;have hg : w79.grownBy w82 (some go66):=(by rw [hw];exact HP81.2);have hp_ : Kd.R k43 43 w82 w.heap.size (fun _=>True) (.slice (some ⟨go66,0,none⟩) x7000_2.length co72) y36:=(by rw [hw,Ny36.out];exact HP81.1);clear HP81;have n0_:=a0_ (hp_);have n1_:=a0_ (blk_grown (bb_ BK1.out) hg (Kd.R_ne Z7.out BK1.out (by decide)));have n2_:=a0_ (blk_grown (bb_ BK2.out) hg (Kd.R_ne Z7.out BK2.out (by decide)));have n3_:=a0_ (blk_grown (bb_ BK6.out) hg (Kd.R_ne Z7.out BK6.out (by decide)));have n4_:=a0_ (IsS76.grown is0_ hg (IsS76.own_ne HI0.out Z7.out (by decide)));have n5_:=a0_ ((by rw [hw];exact below_set (HB.out) (Nat.le_trans HL.out GB66.out) : Below w0.heap.size w0 w82));have n6_:=a0_ (KeepBut.trans (w:=w) hk_ (KeepBut.of_grown hg g) (Kd.R_base2 Z7.out));clear Z7 BK1;clear BK2 BK6;clear HI0 HB HK;have Z7:=n0_;have BK1:=n1_;have BK2:=n2_;have BK6:=n3_;have HI0:=n4_;have HB:=n5_;have HK:=n6_;clear n0_ n1_ n2_ n3_ n4_ n5_ n6_;clear hg hw hp_))
             go_roundg kj37
             case measure=>have:=HK1.out;have:=HK2.out;have:=HJ37.out;omega
             case rel=>exact ⟨(wrap64 (x7_2 - 1)),(t34),(y36),(.slice (some ⟨go66,0,none⟩) x7000_2.length co72),(by first | rfl | (simp;done) | (simp [*];done)),H',⟨by have:=HK1.out;have:=HK2.out;have:=HJ37.out;omega⟩,⟨by (with_reducible repeat (first | apply Kd.R_alloc | apply Kd.R_drewN | apply Kd.R_drew));exact Z7.out⟩,⟨by (with_reducible repeat (first | refine blk_drewN ?_ _ | refine blk_drew ?_ | refine blk_alloc ?_ _));exact BK1.out⟩,⟨by (with_reducible repeat (first | refine blk_drewN ?_ _ | refine blk_drew ?_ | refine blk_alloc ?_ _));exact BK2.out⟩,⟨by (with_reducible repeat (first | refine blk_drewN ?_ _ | refine blk_drew ?_ | refine blk_alloc ?_ _));exact BK6.out⟩,⟨is0_⟩,⟨hk_⟩,⟨hbi0_⟩⟩
            ·rw [if_neg c65] at H
             exact absurd H (by simp)
           ·rw [if_neg c64] at H
            exact absurd H (by simp)
          ·rw [if_neg c63] at H
           have c63b0 : (t33 == 0) = false:=beq_eq_false_iff_ne.mpr c63
           have c63b1 : (t33 != 0) = true:=bne_iff_ne.mpr c63
           replace H:=Option.bind_eq_some_iff.mp H
           obtain ⟨t37,A830,H⟩:=H
           try dsimp only at H
           have A83:=a0_ A830
           clear A830
           have H':=a0_ H
           clear H
           have hnb84:=NB6_1.out
           have hnc84:=NB1_6.out
           have hnb85:=NB6_2.out
           have hnc85:=NB2_6.out
           have hnb86:=NB6_0.out
           have hnc86:=NB0_6.out
           have hcz87_0 : wc.cell? ⟨gb6,0,none⟩ = some (u7000):=(blk_cell BK6.out 0).trans rfl
           have hfz87_0:=blk_frozen BK6.out 0
           obtain ⟨Ao88,co88,eo88⟩:=Kd.R_slice Z7.out
           subst eo88
           go_wp2_with (first | ((with_reducible refine gate_callee (f:=48) rfl ?_);refine goesL_ (some 46) rfl rfl Try.func48 (by kernel_rfl) rfl #[.pointer (some ⟨g,0,none⟩),.int .i64 (x7000_2.length : Int)] rfl lm_ ?_;(with_reducible refine (spec_reader_pick.calls kj37 g s0_0 x1001_2 (x7000_2.length : Int) t27 t28 w0 _ ?side1 ?side2 A46.out).mono ?_);(case side1=>exact is0_);(case side2=>exact hbi0_);rintro e w89 ⟨rfl,hi,hb,hk⟩;refine ⟨_,rfl,?_⟩;replace Z7:=a0_ (Kd.R_mono (Kd.R_keep (IsS76.apart (is0_ : IsS76 w0 _ g s0_0 x1001_2) (rr_ Z7.out) (by decide)) hk (fun _ h=>h.2)) (fun _ h=>h.1));replace BK1:=kk_ hk BK1 NB1_0;replace BK2:=kk_ hk BK2 NB2_0;replace BK6:=kk_ hk BK6 NB6_0;replace HK:=a0_ (KeepBut.trans (w:=w) hk_ hk (.inl rfl));replace HI0:=a0_ (hi);replace HB:=a0_ (hb);(try clear hb);have hcz90_0 : w89.cell? ⟨gb6,0,none⟩ = some (.slice Ao88 x7000_2.length co88):=(blk_cell BK6.out 0).trans rfl;have hfz90_0:=blk_frozen BK6.out 0) | ((with_reducible refine gate_callee (f:=48) rfl ?_);refine goesL_ (some 51) rfl rfl Try.func48 (by kernel_rfl) rfl #[.pointer (some ⟨g,0,none⟩),.int .i64 (x7000_2.length : Int)] rfl lm_ ?_;(with_reducible refine (spec_reader_pick.calls kj37 g s0_0 t28 (x7000_2.length : Int) t29 t30 w0 _ ?side1 ?side2 A47.out).mono ?_);(case side1=>exact is0_);(case side2=>exact hbi0_);rintro e w91 ⟨rfl,hi,hb,hk⟩;refine ⟨_,rfl,?_⟩;replace Z7:=a0_ (Kd.R_mono (Kd.R_keep (IsS76.apart (is0_ : IsS76 w0 _ g s0_0 t28) (rr_ Z7.out) (by decide)) hk (fun _ h=>h.2)) (fun _ h=>h.1));replace BK1:=kk_ hk BK1 NB1_0;replace BK2:=kk_ hk BK2 NB2_0;replace BK6:=kk_ hk BK6 NB6_0;replace HK:=a0_ (KeepBut.trans (w:=w) hk_ hk (.inl rfl));replace HI0:=a0_ (hi);replace HB:=a0_ (hb);(try clear hb);(try clear hb2);(try clear hk);(try clear hi)) | ((with_reducible refine gate_callee (f:=48) rfl ?_);refine goesL_ (some 74) rfl rfl Try.func48 (by kernel_rfl) rfl #[.pointer (some ⟨g,0,none⟩),.int .i64 3] rfl lm_ ?_;(with_reducible refine (spec_reader_pick.calls kj37 g s0_0 t30 3 t33 t34 w0 _ ?side1 ?side2 A62.out).mono ?_);(case side1=>exact is0_);(case side2=>exact hbi0_);rintro e w92 ⟨rfl,hi,hb,hk⟩;refine ⟨_,rfl,?_⟩;replace Z7:=a0_ (Kd.R_mono (Kd.R_keep (IsS76.apart (is0_ : IsS76 w0 _ g s0_0 t30) (rr_ Z7.out) (by decide)) hk (fun _ h=>h.2)) (fun _ h=>h.1));replace BK1:=kk_ hk BK1 NB1_0;replace BK2:=kk_ hk BK2 NB2_0;replace BK6:=kk_ hk BK6 NB6_0;replace HK:=a0_ (KeepBut.trans (w:=w) hk_ hk (.inl rfl));replace HI0:=a0_ (hi);replace HB:=a0_ (hb);(try clear hb);have hcz93_0 : w92.cell? ⟨gb6,0,none⟩ = some (.slice Ao88 x7000_2.length co88):=(blk_cell BK6.out 0).trans rfl;have hfz93_0:=blk_frozen BK6.out 0) | ((with_reducible refine gate_callee (f:=55) rfl ?_);refine goesL_ (some 55) rfl rfl Try.func55 (by kernel_rfl) rfl #[.agg #[.slice Ao88 x7000_2.length co88],.int .i64 t27,.int .i64 t29] rfl lm_ ?_;(with_reducible refine (spec_raised.calls kj37 _ _ x7000_2 t27 t29 t37 _ ?side1 ?side2 A83.out).mono ?_);(case side1=>exact cc_ (Kd.R_reads' Z7.out).2.2);(case side2=>exact (Kd.R_reads' Z7.out).2.1);rintro e w94 ⟨v38,rfl,ho0,hb⟩;refine ⟨_,rfl,?_⟩;have n0_:=a0_ (Kd.R_elder' (rr_ Z7.out) (Kd.R_base ho0) hb);have n1_:=a0_ (Kd.R_lower (Kd.R_new' ho0 (Kd.R_lt (rr_ Z7.out))) (keep_size (w:=w) (g:=g) (row:=none) hk_));have n2_:=kb_ BK1 hb;have n3_:=kb_ BK2 hb;have n4_:=kb_ BK6 hb;have n5_:=a0_ (IsS76.below is0_ hb);have n6_:=a0_ (KeepBut.trans (w:=w) hk_ (KeepBut.of_below hb g none) (.inl rfl));have n7_:=a0_ (below_step hbi0_ hb);clear Z7 BK1;clear BK2 BK6;clear HI0 HK HB;have Z7:=n0_;have HO39:=n1_;have BK1:=n2_;have BK2:=n3_;have BK6:=n4_;have HI0:=n5_;have HK:=n6_;have HB:=n7_;clear n0_ n1_ n2_ n3_ n4_ n5_ n6_ n7_;(try clear hb);(try clear ho0);obtain ⟨Ao95,co95,eo95⟩:=Kd.R_slice HO39.out;subst eo95;have hcz96_0 : w94.cell? ⟨gb6,0,none⟩ = some (.slice Ao88 x7000_2.length co88):=(blk_cell BK6.out 0).trans rfl;have hfz96_0:=blk_frozen BK6.out 0))
           go_roundg kj37
           case measure=>have:=HK1.out;have:=HK2.out;have:=HJ37.out;omega
           case rel=>exact ⟨(wrap64 (x7_2 - 1)),(t34),(t37),(.slice Ao95 t37.length co95),(by first | rfl | (simp;done) | (simp [*];done)),H',⟨by have:=HK1.out;have:=HK2.out;have:=HJ37.out;omega⟩,⟨by (with_reducible repeat (first | apply Kd.R_alloc | apply Kd.R_drewN | apply Kd.R_drew));exact Kd.R_mono (Kd.R_far (p:=⟨gb6,0,none⟩) (Kd.R_types HO39.out BK6.out (by decide)) (fun _ hk=>hk.2) (.slice Ao95 t37.length co95)) (fun _ hk=>trivial)⟩,⟨by (with_reducible repeat (first | refine blk_drewN ?_ _ | refine blk_drew ?_ | refine blk_alloc ?_ _));refine blk_far ?_ NB1_6.out _;(with_reducible repeat (first | refine blk_drewN ?_ _ | refine blk_drew ?_ | refine blk_alloc ?_ _));exact BK1.out⟩,⟨by (with_reducible repeat (first | refine blk_drewN ?_ _ | refine blk_drew ?_ | refine blk_alloc ?_ _));refine blk_far ?_ NB2_6.out _;(with_reducible repeat (first | refine blk_drewN ?_ _ | refine blk_drew ?_ | refine blk_alloc ?_ _));exact BK2.out⟩,⟨by (with_reducible repeat (first | refine blk_drewN ?_ _ | refine blk_drew ?_ | refine blk_alloc ?_ _));refine blk_put (cs:=#[.slice Ao88 x7000_2.length co88]) ?_ 0 _ rfl;(with_reducible repeat (first | refine blk_drewN ?_ _ | refine blk_drew ?_ | refine blk_alloc ?_ _));exact BK6.out⟩,⟨is0_⟩,⟨hk_⟩,⟨hbi0_⟩⟩
        ·replace c45:=Bool.eq_false_iff.mpr c45
         subst c45
         have H1 : (some (x7000_2,x1001_2)) = some (r1,r2):=by rw [if_neg (show ¬ (false = true) by decide)] at H;exact H
         clear H
         have H:=H1
         clear H1
         simp only [Option.some.injEq,Prod.mk.injEq] at H
         obtain ⟨rfl,rfl⟩:=H
         have hnb97:=NB6_1.out
         have hnc97:=NB1_6.out
         have hnb98:=NB6_2.out
         have hnc98:=NB2_6.out
         have hnb99:=NB6_0.out
         have hnc99:=NB0_6.out
         have hcz100_0 : wc.cell? ⟨gb6,0,none⟩ = some (u7000):=(blk_cell BK6.out 0).trans rfl
         have hfz100_0:=blk_frozen BK6.out 0
         obtain ⟨Ao101,co101,eo101⟩:=Kd.R_slice Z7.out
         subst eo101
         have hnb102:=NB2_1.out
         have hnc102:=NB1_2.out
         have hnb103:=NB2_0.out
         have hnc103:=NB0_2.out
         have hcz104_0 : wc.cell? ⟨gb2,0,none⟩ = some (.slice none 0 0):=(blk_cell BK2.out 0).trans rfl
         have hfz104_0:=blk_frozen BK2.out 0
         go_wp2
         refine bodyPost_ret (results_cell_row rfl _ _ gb2 28 #[.slice Ao101 x7000_2.length co101] (0,0) _ rfl (by (with_reducible repeat (first | refine blk_drewN ?_ _ | refine blk_drew ?_ | refine blk_alloc ?_ _));refine blk_put (cs:=#[.slice none 0 0]) ?_ 0 _ rfl;(with_reducible repeat (first | refine blk_drewN ?_ _ | refine blk_drew ?_ | refine blk_alloc ?_ _));exact BK2.out) Try.underlying28 rfl (by kernel_rfl)) rfl ?_
         exact ⟨_,by first | rfl | (simp [errW_none,errW_some] <;> rfl) | (simp [*,errW_none,errW_some] <;> rfl),by (with_reducible repeat (first | apply Kd.R_alloc | apply Kd.R_drewN | apply Kd.R_drew));exact Kd.R_mono (Kd.R_far (p:=⟨gb2,0,none⟩) (Kd.R_types Z7.out BK2.out (by decide)) (fun _ hk=>hk.2) (.slice Ao101 x7000_2.length co101)) (fun _ hk=>trivial),is0_,hbi0_,hk_⟩
theorem spec_goodHeap_l1 (b : List Int) (hb : byL b) : ∀ (d : Nat) (q : Int) (h : List Fau),0 ≤ q → q + 3 * d ≤ 1099511627776 → h.length ≤ 6 → vH t8 h = true → ∃ h' q',Ev (fun k=>spec_goodHeap.l1 k (d : Int) b q h) (h',q') ∧ q ≤ q' ∧ q' ≤ q + 3 * d ∧ h'.length ≤ 6:=by
 intro d
 induction d with
 | zero =>
  intro q h h0 h1 hl hv
  refine ⟨h,q,Ev.succ ?_,by omega,by omega,hl⟩
  simp only [spec_goodHeap.l1]
  refine Ev.neg (by omega) (Ev.succ ?_)
  simp only [spec_goodHeap.j2]
  exact Ev.neg (by simp) (Ev.const rfl)
 | succ d ih =>
  intro q h h0 h1 hl hv
  have ew : wrap64 (((d + 1 : Nat) : Int) - 1) = (d : Int):=by rw [wrap_in (by omega) (by omega)];omega
  by_cases hlen : (h.length : Int) > 1
  ·obtain ⟨f,hf,f0,f1,_⟩:=spec_pick_ev b q (h.length : Int) hb h0 (by omega)
   have f1:=f1 (by omega)
   obtain ⟨g,hg,g0,g1,_⟩:=spec_pick_ev b (q + 1) (h.length : Int) hb (by omega) (by omega)
   have g1:=g1 (by omega)
   have hrd : ∀ (l : List Fau) (u : Int),rd_T43 l u = fauAt l u:=fun l u=>by simp [rd_T43,fauAt]
   by_cases e : f = g
   ·obtain ⟨h',q',he,a1,a2,a3⟩:=ih (q + 1 + 1) (h.set f.toNat ⟨(fauAt h f).f0,(fauAt h f).f1,(fauAt h f).f2,(fauAt h f).f3,!(fauAt h f).f4⟩) (by omega) (by omega) (by rw [List.length_set];exact hl) (vH_hide hv f _ f0 f1)
    refine ⟨h',q',Ev.succ ?_,by omega,by omega,a3⟩
    simp only [spec_goodHeap.l1]
    rw [decide_eq_true hlen]
    refine Ev.pos (by omega) (Ev.succ ?_)
    simp only [spec_goodHeap.j2,hrd,ew]
    exact Ev.pos trivial (Ev.bind hf (Ev.bind hg (Ev.pos e (Ev.pos f0 (Ev.pos f1 he)))))
   ·obtain ⟨z,hz,z0,z1,_⟩:=spec_pick_ev b (q + 1 + 1) 3 hb (by omega) (by omega)
    by_cases c0 : z = 0
    ·have hv2:=vH_cause hv f g true f0 f1 (lnk_of g0 g1 e)
     obtain ⟨h',q',he,a1,a2,a3⟩:=ih (q + 1 + 1 + 1) (h.set f.toNat ⟨(fauAt h f).f0,(fauAt h f).f1,g,(fauAt h f).f3,true⟩) (by omega) (by omega) (by rw [List.length_set];exact hl) hv2
     refine ⟨h',q',Ev.succ ?_,by omega,by omega,a3⟩
     simp only [spec_goodHeap.l1]
     rw [decide_eq_true hlen]
     refine Ev.pos (by omega) (Ev.succ ?_)
     simp only [spec_goodHeap.j2,hrd,ew]
     refine Ev.pos trivial (Ev.bind hf (Ev.bind hg (Ev.neg e (Ev.bind hz (Ev.pos c0 (Ev.pos f0 (Ev.pos f1 (Ev.bind (Ev.const rfl) ?_))))))))
     rw [fauAt_set_eq f0 f1,List.set_set]
     exact he
    ·obtain ⟨h',q',he,a1,a2,a3⟩:=ih (q + 1 + 1 + 1) (whlP h f g) (by omega) (by omega) (by rw [whlP_len];exact hl) (vH_whl hv f0 f1 g0 g1)
     refine ⟨h',q',Ev.succ ?_,by omega,by omega,a3⟩
     simp only [spec_goodHeap.l1]
     rw [decide_eq_true hlen]
     refine Ev.pos (by omega) (Ev.succ ?_)
     simp only [spec_goodHeap.j2,hrd,ew]
     exact Ev.pos trivial (Ev.bind hf (Ev.bind hg (Ev.neg e (Ev.bind hz (Ev.neg c0 (Ev.bind (spec_raised_ev t8 h f g hv f0 f1 g0 g1) he))))))
  ·refine ⟨h,q,Ev.succ ?_,by omega,by omega,hl⟩
   simp only [spec_goodHeap.l1]
   rw [decide_eq_false hlen]
   refine Ev.pos (by omega) (Ev.succ ?_)
   simp only [spec_goodHeap.j2]
   exact Ev.neg (by simp) (Ev.const rfl)
theorem spec_goodHeap_l0 (b : List Int) (hb : byL b) (t : List Cls) (ht : t.length ≤ 8) : ∀ (d : Nat) (q : Int) (h : List Fau),0 ≤ q → q + 2 * d + 20 ≤ 1099511627776 → h.length + d ≤ 6 → vH t8 h = true → ∃ h' q',Ev (fun k=>spec_goodHeap.l0 k (d : Int) b q t h) (h',q') ∧ q ≤ q' ∧ q' ≤ q + 2 * d + 20 ∧ h'.length ≤ 6:=by
 intro d
 induction d with
 | zero =>
  intro q h h0 h1 hl hv
  obtain ⟨n,hn,hnm⟩:=spec_one_ev b q [3,4,2,5,0] hb h0 (by omega) (by simp)
  have hr : 0 ≤ n ∧ n ≤ 5:=by
   simp only [List.mem_cons,List.not_mem_nil,or_false] at hnm
   omega
  obtain ⟨m,rfl⟩:=Int.eq_ofNat_of_zero_le hr.1
  obtain ⟨h',q',he,a1,a2,a3⟩:=spec_goodHeap_l1 b hb m (q + 1) h (by omega) (by omega) (by omega) hv
  refine ⟨h',q',Ev.succ ?_,by omega,by omega,a3⟩
  simp only [spec_goodHeap.l0]
  exact Ev.neg (by omega) (Ev.bind hn he)
 | succ d ih =>
  intro q h h0 h1 hl hv
  have ew : wrap64 (((d + 1 : Nat) : Int) - 1) = (d : Int):=by rw [wrap_in (by omega) (by omega)];omega
  obtain ⟨x,hx,x0,x1,x2⟩:=spec_pick_ev b q (t.length : Int) hb h0 (by omega)
  have hx8 : x < 8:=by
   by_cases e : 1 ≤ (t.length : Int)
   ·have:=x1 e;omega
   ·have:=x2 (by omega);omega
  obtain ⟨c,hc,hcm⟩:=spec_one_ev b (q + 1) [1,2,3,0,99] hb (by omega) (by omega) (by simp)
  have hcr : 0 ≤ c ∧ c ≤ 99:=by
   simp only [List.mem_cons,List.not_mem_nil,or_false] at hcm
   omega
  obtain ⟨h',q',he,a1,a2,a3⟩:=ih (q + 1 + 1) (h ++ [⟨x,c,-1,-1,false⟩]) (by omega) (by omega) (by simp;omega) (vH_add hv x c (hasC_t8 x0 hx8) hcr.1 hcr.2 (by omega))
  refine ⟨h',q',Ev.succ ?_,by omega,by omega,a3⟩
  simp only [spec_goodHeap.l0,ew]
  exact Ev.pos (by omega) (Ev.bind hx (Ev.bind hc (Ev.bind (Ev.const (spec_added_ev h x c (by omega))) he)))
theorem spec_goodHeap_ev (b : List Int) (p : Int) (t : List Cls) (hb : byL b) (h0 : 0 ≤ p) (hp : p ≤ 1099511627000) (ht : t.length ≤ 8) : ∃ h q,Ev (fun k=>spec_goodHeap.f k b p t) (h,q) ∧ p ≤ q ∧ q ≤ p + 40 ∧ h.length ≤ 6:=by
 obtain ⟨n,hn,hnm⟩:=spec_one_ev b p [4,5,3,6,2,1,0] hb h0 (by omega) (by simp)
 have hr : 0 ≤ n ∧ n ≤ 6:=by
  simp only [List.mem_cons,List.not_mem_nil,or_false] at hnm
  omega
 obtain ⟨m,rfl⟩:=Int.eq_ofNat_of_zero_le hr.1
 obtain ⟨h',q',he,a1,a2,a3⟩:=spec_goodHeap_l0 b hb t ht m (p + 1) [] (by omega) (by omega) (by simp;omega) (vH_nil vT_t8)
 exact ⟨h',q',Ev.bind hn he,by omega,by omega,a3⟩
end Go.Proofs.Ytmiholmfbjalfaa.P
