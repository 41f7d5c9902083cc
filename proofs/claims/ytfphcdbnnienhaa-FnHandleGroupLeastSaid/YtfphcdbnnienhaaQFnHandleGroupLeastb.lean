/- Texts under the proof of FnHandleGroupLeast: helper words, the functions' contracts and the plain laws. No condition. -/
import Derived.Test.YtfphcdbnnienhaaQFnHandleGroupLeasta
namespace Go.Proofs.Ytfphcdbnnienhaa.P
open Go.RowKit Go.Proofs.YtfphcdbnnienhaaW.PrintWords Go.Proofs.YtfphcdbnnienhaaW.PrintLast Go.Proofs.YtfphcdbnnienhaaW.PrintMore
attribute [local go_sem] max2_int min2_int max_two min_two max_three min_three max_four min_four
set_option linter.unusedVariables false
set_option linter.unusedSimpArgs false
def spec_someTree.f (k : Nat) (s0_0 : List Int) (s0_1 : Int) : Option ((List (S85)) × Int):=(spec_goodTree.f k s0_0 s0_1).bind fun bt2=>((spec_reader_pick.f k s0_0 bt2.2 (bt2.1.length : Int)).bind fun bt7=>((spec_reader_pick.f k s0_0 bt7.2 24).bind fun bt9=>(if bt9.1 = 0 then ((spec_reader_of.f k s0_0 bt9.2 (([(⟨#[]⟩ : ByteArray),(⟨#[97,110,121]⟩ : ByteArray),(⟨#[65]⟩ : ByteArray),(⟨#[116,111,111,108,111,110,103]⟩ : ByteArray)] : List ByteArray))).bind fun bt14=>(if 0 ≤ bt7.1 then (if bt7.1 < (bt2.1.length : Int) then (some ((bt2.1.set (bt7.1 : Int).toNat (⟨bt14.1,(rd_T85 bt2.1 bt7.1).f1⟩ : S85)),bt14.2)) else (none)) else (none))) else (if bt9.1 = 1 then ((spec_reader_one.f k s0_0 bt9.2 (([bt7.1,(-1),8,(-2)] : List Int))).bind fun bt20=>(if 0 ≤ bt7.1 then (if bt7.1 < (bt2.1.length : Int) then (some ((bt2.1.set (bt7.1 : Int).toNat (⟨(rd_T85 bt2.1 bt7.1).f0,bt20.1⟩ : S85)),bt20.2)) else (none)) else (none))) else (if bt9.1 = 2 then (some (([] : List (S85)),bt9.2)) else (some (bt2.1,bt9.2)))))))
theorem spec_someTree.mono : ∀ a0 a1 k,LeO (spec_someTree.f k a0 a1) (spec_someTree.f (k + 1) a0 a1):=by
 intro a0 a1 k
 unfold spec_someTree.f
 repeat' first
   | (with_reducible exact spec_goodTree.mono _ _ _)
   | (with_reducible exact spec_reader_of.mono _ _ _ _)
   | (with_reducible exact spec_reader_one.mono _ _ _ _)
   | (with_reducible exact spec_reader_pick.mono _ _ _ _)
   | (with_reducible exact LeO.refl _)
   | (with_reducible exact LeO.none _)
   | (with_reducible refine LeO.ite ?_ ?_)
   | (with_reducible refine LeO.bind ?_ (fun _=>?_))
   | exact spec_goodTree.mono _ _ _
   | exact spec_reader_of.mono _ _ _ _
   | exact spec_reader_one.mono _ _ _ _
   | exact spec_reader_pick.mono _ _ _ _
   | exact LeO.none _
   | refine LeO.ite ?_ ?_
   | refine LeO.bind ?_ (fun _=>?_)
def spec_someTree.T5 : Bool × List (List Nat × List Nat):=(true,[([],[]),([0],[0]),([],[]),([],[]),([],[]),([3,4],[3,4]),([1,2,0,1,2,3,4,5],[1,2]),([6,0,1,2,3,4,5],[6]),([7,5,5,0,1,2,3,4,5],[5,7])])
def spec_someTree.B5 : List Nat:=[0,1,0,0,0,24,63,127,255]
theorem spec_someTree.tab5 : rtab .any (opsOf Try.f61 5) = spec_someTree.T5:=by kernel_rfl
theorem spec_someTree.bits5 : waitsOk spec_someTree.T5.2 spec_someTree.B5 = true:=by kernel_rfl
def spec_someTree.T7 : Bool × List (List Nat × List Nat):=(true,[([],[]),([0],[0]),([],[]),([],[]),([],[]),([4],[4]),([3,5],[3,5]),([1,2,0,1,2,3,4,5,6],[1,2]),([7,0,1,2,3,4,5,6],[7]),([8,6,6,0,1,2,3,4,5,6],[6,8])])
def spec_someTree.B7 : List Nat:=[0,1,0,0,0,16,56,127,255,511]
theorem spec_someTree.tab7 : rtab .any (opsOf Try.f61 7) = spec_someTree.T7:=by kernel_rfl
theorem spec_someTree.bits7 : waitsOk spec_someTree.T7.2 spec_someTree.B7 = true:=by kernel_rfl
set_option maxHeartbeats 8000000 in
set_option maxRecDepth 100000 in
theorem spec_someTree.calls (k : Nat) (g : Nat) (s0_0 : List Int) (s0_1 : Int) (r1 : List (S85)) (r2 : Int) (w0 w : World) (hI : IsS81 w0 w g s0_0 s0_1) (hB : Below w0.heap.size w0 w) (h : spec_someTree.f k s0_0 s0_1 = some (r1,r2)) :
  Calls Try.prog 61 #[.pointer (some ⟨g,0,none⟩)] w fun e w'=>∃ v0_ : Value,e = .returned (.agg #[v0_]) ∧ Kd.R k85 85 w' w.heap.size (fun _=>True) v0_ r1 ∧ IsS81 w0 w' g s0_0 r2 ∧ Below w0.heap.size w0 w' ∧ KeepBut w w' g none:=by
 have hu25:=Try.underlying25
 have HI0:=a0_ hI
 have HK:=a0_ (KeepBut.refl w g none)
 have HL:=a0_ hB.size
 clear hI
 have HW0:=a0_ hB.size
 have HB:=a0_ hB
 clear hB
 have H : ((spec_goodTree.f k s0_0 s0_1).bind fun bt2=>((spec_reader_pick.f k s0_0 bt2.2 (bt2.1.length : Int)).bind fun bt7=>((spec_reader_pick.f k s0_0 bt7.2 24).bind fun bt9=>(if bt9.1 = 0 then ((spec_reader_of.f k s0_0 bt9.2 (([(⟨#[]⟩ : ByteArray),(⟨#[97,110,121]⟩ : ByteArray),(⟨#[65]⟩ : ByteArray),(⟨#[116,111,111,108,111,110,103]⟩ : ByteArray)] : List ByteArray))).bind fun bt14=>(if 0 ≤ bt7.1 then (if bt7.1 < (bt2.1.length : Int) then (some ((bt2.1.set (bt7.1 : Int).toNat (⟨bt14.1,(rd_T85 bt2.1 bt7.1).f1⟩ : S85)),bt14.2)) else (none)) else (none))) else (if bt9.1 = 1 then ((spec_reader_one.f k s0_0 bt9.2 (([bt7.1,(-1),8,(-2)] : List Int))).bind fun bt20=>(if 0 ≤ bt7.1 then (if bt7.1 < (bt2.1.length : Int) then (some ((bt2.1.set (bt7.1 : Int).toNat (⟨(rd_T85 bt2.1 bt7.1).f0,bt20.1⟩ : S85)),bt20.2)) else (none)) else (none))) else (if bt9.1 = 2 then (some (([] : List (S85)),bt9.2)) else (some (bt2.1,bt9.2)))))))) = some (r1,r2):=h
 clear h
 replace H:=Option.bind_eq_some_iff.mp H
 obtain ⟨⟨t2,t5⟩,A20,H⟩:=H
 try dsimp only at H
 have A2:=a0_ A20
 clear A20
 replace H:=Option.bind_eq_some_iff.mp H
 obtain ⟨⟨t7,t8⟩,A30,H⟩:=H
 try dsimp only at H
 have A3:=a0_ A30
 clear A30
 replace H:=Option.bind_eq_some_iff.mp H
 obtain ⟨⟨t9,t10⟩,A40,H⟩:=H
 try dsimp only at H
 have A4:=a0_ A40
 clear A40
 by_cases c5 : t9 = 0
 ·rw [if_pos c5] at H
  have c5b0 : (t9 == 0) = true:=beq_iff_eq.mpr c5
  have c5b1 : (t9 != 0) = false:=bne_eq_false_iff_eq.mpr c5
  clear c5
  obtain ⟨y11,hy11⟩ : ∃ y_ : List ByteArray,y_ = (([(⟨#[]⟩ : ByteArray),(⟨#[97,110,121]⟩ : ByteArray),(⟨#[65]⟩ : ByteArray),(⟨#[116,111,111,108,111,110,103]⟩ : ByteArray)] : List ByteArray)):=⟨_,rfl⟩
  replace H : ((spec_reader_of.f k s0_0 t10 y11).bind fun bt14=>(if 0 ≤ t7 then (if t7 < (t2.length : Int) then (some ((t2.set (t7 : Int).toNat (⟨bt14.1,(rd_T85 t2 t7).f1⟩ : S85)),bt14.2)) else (none)) else (none))) = some (r1,r2):=by first | (rw [hy11];with_reducible exact H) | (have H2_:=(Option.bind_some _ _).symm.trans H;rw [hy11];with_reducible exact H2_) | (have H2_:=(Option.bind_some _ _).symm.trans H;with_reducible exact H2_) | with_reducible exact H | (rw [hy11];exact H) | exact H
  have Ny11:=a0_ hy11
  clear hy11
  replace H:=Option.bind_eq_some_iff.mp H
  obtain ⟨⟨t14,t15⟩,A60,H⟩:=H
  try dsimp only at H
  have A6:=a0_ A60
  clear A60
  by_cases c7 : 0 ≤ t7
  ·rw [if_pos c7] at H
   have c7b0 : decide (0 ≤ t7) = true:=decide_eq_true c7
   clear c7
   by_cases c8 : t7 < (t2.length : Int)
   ·rw [if_pos c8] at H
    have c8b0 : decide (t7 < (t2.length : Int)) = true:=decide_eq_true c8
    clear c8
    obtain ⟨y16,hy16⟩ : ∃ y_ : List (S85),y_ = (t2.set (t7 : Int).toNat (⟨t14,(rd_T85 t2 t7).f1⟩ : S85)):=⟨_,rfl⟩
    replace H : (some (y16,t15)) = some (r1,r2):=by first | (rw [hy16];with_reducible exact H) | (have H2_:=(Option.bind_some _ _).symm.trans H;rw [hy16];with_reducible exact H2_) | (have H2_:=(Option.bind_some _ _).symm.trans H;with_reducible exact H2_) | with_reducible exact H | (rw [hy16];exact H) | exact H
    have Ny16:=a0_ hy16
    clear hy16
    simp only [Option.some.injEq,Prod.mk.injEq] at H
    obtain ⟨rfl,rfl⟩:=H
    go_enter Try.func61,Try.ntmps61
    try go_wp2_with (first | ((with_reducible refine gate_dst (N:=2) rfl ?_);refine box_event ?hg (N:=2) ?hd (cs:=#[.slice none 0 0]) (t:=25) ?hr ?_;(case hd=>rfl);(case hg=>rfl);(case hr=>first | (go_simp;done) | (go_simp;rfl));intro gb1 hg w10 hbox hb;have n0_:=a0_ (IsS81.below is0_ hb);have n1_:=a0_ (KeepBut.trans (w:=w) hk_ (KeepBut.of_below hb g none) (.inl rfl));have n2_:=a0_ (below_step hbi0_ hb);have n3_:=a0_ (hbox);have n4_:=a0_ ((by rw [hg];exact (keep_size (w:=w) (g:=g) (row:=none) hk_) : w.heap.size ≤ gb1));have n5_:=a0_ ((Nat.le_trans HW0.out (by rw [hg];exact (keep_size (w:=w) (g:=g) (row:=none) hk_) : w.heap.size ≤ gb1) : w0.heap.size ≤ gb1));have n6_:=a0_ ((by rw [hg];exact Nat.ne_of_lt (IsS81.lt (is0_ : IsS81 w0 _ g s0_0 s0_1)) : g ≠ gb1));have n7_:=a0_ ((by rw [hg];exact Nat.ne_of_gt (IsS81.lt (is0_ : IsS81 w0 _ g s0_0 s0_1)) : gb1 ≠ g));clear HI0 HK HB;have HI0:=n0_;have HK:=n1_;have HB:=n2_;have BK1:=n3_;have GW1:=n4_;have GE1:=n5_;have NB0_1:=n6_;have NB1_0:=n7_;clear n0_ n1_ n2_ n3_ n4_ n5_ n6_ n7_;clear hb hbox hg) | ((with_reducible refine gate_callee (f:=83) rfl ?_);refine goesL_ (some 6) rfl rfl Try.func83 (by kernel_rfl) rfl #[.pointer (some ⟨g,0,none⟩)] rfl lm_ ?_;(with_reducible refine (spec_goodTree.calls k g s0_0 s0_1 t2 t5 w0 _ ?side1 ?side2 A2.out).mono ?_);(case side1=>exact is0_);(case side2=>exact hbi0_);rintro e w11 ⟨v3,rfl,ho0,hi,hb,hk⟩;refine ⟨_,rfl,?_⟩;replace BK1:=kk_ hk BK1 NB1_0;have HO4:=a0_ (Kd.R_lower ho0 (keep_size (w:=w) (g:=g) (row:=none) hk_));replace HK:=a0_ (KeepBut.trans (w:=w) hk_ hk (.inl rfl));replace HI0:=a0_ (hi);replace HB:=a0_ (hb);(try clear hb);(try clear ho0)) | ((with_reducible refine gate_dst (N:=3) rfl ?_);refine box_event ?hg (N:=3) ?hd (cs:=#[.slice none 0 0]) (t:=25) ?hr ?_;(case hd=>rfl);(case hg=>rfl);(case hr=>first | (go_simp;done) | (go_simp;rfl));intro gb6 hg w12 hbox hb;have n0_:=rb_ HO4 hb;have n1_:=a0_ (IsS81.below is0_ hb);have n2_:=kb_ BK1 hb;have n3_:=a0_ (KeepBut.trans (w:=w) hk_ (KeepBut.of_below hb g none) (.inl rfl));have n4_:=a0_ (below_step hbi0_ hb);have n5_:=a0_ (hbox);have n6_:=a0_ ((by rw [hg];exact (keep_size (w:=w) (g:=g) (row:=none) hk_) : w.heap.size ≤ gb6));have n7_:=a0_ ((Nat.le_trans HW0.out (by rw [hg];exact (keep_size (w:=w) (g:=g) (row:=none) hk_) : w.heap.size ≤ gb6) : w0.heap.size ≤ gb6));have n8_:=a0_ ((by rw [hg];exact Nat.ne_of_lt (blk_lt (bb_ BK1.out)) : gb1 ≠ gb6));have n9_:=a0_ ((by rw [hg];exact Nat.ne_of_gt (blk_lt (bb_ BK1.out)) : gb6 ≠ gb1));have n10_:=a0_ ((by rw [hg];exact Nat.ne_of_lt (IsS81.lt (is0_ : IsS81 w0 _ g s0_0 t5)) : g ≠ gb6));have n11_:=a0_ ((by rw [hg];exact Nat.ne_of_gt (IsS81.lt (is0_ : IsS81 w0 _ g s0_0 t5)) : gb6 ≠ g));clear HO4 HI0;clear BK1 HK HB;have HO4:=n0_;have HI0:=n1_;have BK1:=n2_;have HK:=n3_;have HB:=n4_;have BK6:=n5_;have GW6:=n6_;have GE6:=n7_;have NB1_6:=n8_;have NB6_1:=n9_;have NB0_6:=n10_;have NB6_0:=n11_;clear n0_ n1_ n2_ n3_ n4_ n5_ n6_ n7_ n8_ n9_ n10_ n11_;clear hb hbox hg;obtain ⟨Ao13,co13,eo13⟩:=Kd.R_slice HO4.out;subst eo13;have hnb14:=NB6_1.out;have hnc14:=NB1_6.out;have hnb15:=NB6_0.out;have hnc15:=NB0_6.out;have hcz16_0 : w12.cell? ⟨gb6,0,none⟩ = some (.slice none 0 0):=(blk_cell BK6.out 0).trans rfl;have hfz16_0:=blk_frozen BK6.out 0) | ((with_reducible refine gate_callee (f:=63) rfl ?_);refine goesL_ (some 11) rfl rfl Try.func63 (by kernel_rfl) rfl #[.pointer (some ⟨g,0,none⟩),.int .i64 (t2.length : Int)] rfl lm_ ?_;(with_reducible refine (spec_reader_pick.calls k g s0_0 t5 (t2.length : Int) t7 t8 w0 _ ?side1 ?side2 A3.out).mono ?_);(case side1=>exact is0_);(case side2=>exact hbi0_);rintro e w17 ⟨rfl,hi,hb,hk⟩;refine ⟨_,rfl,?_⟩;replace BK1:=kk_ hk BK1 NB1_0;replace HO4:=a0_ (Kd.R_mono (Kd.R_keep (IsS81.apart (is0_ : IsS81 w0 _ g s0_0 t5) (by (with_reducible repeat (first | apply Kd.R_alloc | apply Kd.R_drewN | apply Kd.R_drew));exact (Kd.R_mono (Kd.R_far (p:=⟨gb6,0,none⟩) (Kd.R_types HO4.out BK6.out (by decide)) (fun _ hk=>hk.2) (.slice Ao13 t2.length co13)) (fun _ h_=>h_.1))) (by decide)) hk (fun _ h=>h.2)) (fun _ h=>h.1));replace BK6:=a0_ (KeepBut.blk hk (g':=gb6) (o:=.cells #[.slice Ao13 t2.length co13] 25 (0,0)) (by (with_reducible repeat (first | refine blk_drewN ?_ _ | refine blk_drew ?_ | refine blk_alloc ?_ _));refine blk_put (cs:=#[.slice none 0 0]) ?_ 0 _ rfl;(with_reducible repeat (first | refine blk_drewN ?_ _ | refine blk_drew ?_ | refine blk_alloc ?_ _));exact BK6.out) NB6_0.out (by simp));replace HK:=a0_ (KeepBut.trans (w:=w) hk_ hk (.inl rfl));replace HI0:=a0_ (hi);replace HB:=a0_ (hb);(try clear hb);(try clear hb2);(try clear hk);(try clear hi)) | ((with_reducible refine gate_callee (f:=63) rfl ?_);refine goesL_ (some 13) rfl rfl Try.func63 (by kernel_rfl) rfl #[.pointer (some ⟨g,0,none⟩),.int .i64 24] rfl lm_ ?_;(with_reducible refine (spec_reader_pick.calls k g s0_0 t8 24 t9 t10 w0 _ ?side1 ?side2 A4.out).mono ?_);(case side1=>exact is0_);(case side2=>exact hbi0_);rintro e w18 ⟨rfl,hi,hb,hk⟩;refine ⟨_,rfl,?_⟩;replace BK1:=kk_ hk BK1 NB1_0;replace HO4:=a0_ (Kd.R_mono (Kd.R_keep (IsS81.apart (is0_ : IsS81 w0 _ g s0_0 t8) (rr_ HO4.out) (by decide)) hk (fun _ h=>h.2)) (fun _ h=>h.1));replace BK6:=kk_ hk BK6 NB6_0;replace HK:=a0_ (KeepBut.trans (w:=w) hk_ hk (.inl rfl));replace HI0:=a0_ (hi);replace HB:=a0_ (hb);(try clear hb);(try clear hb2);(try clear hk);(try clear hi)))
    have n0_:=a0_ (Kd.R_drew HO4.out)
    have n1_:=a0_ (blk_drew BK1.out)
    have n2_:=a0_ (blk_drew BK6.out)
    have n3_:=a0_ (IsS81.drew HI0.out)
    have n4_:=a0_ (keep_drew HK.out)
    have n5_:=a0_ (below_drew1 HB.out)
    clear HO4
    clear BK1
    clear BK6
    clear HI0
    clear HK
    clear HB
    have HO4:=n0_
    have BK1:=n1_
    have BK6:=n2_
    have HI0:=n3_
    have HK:=n4_
    have HB:=n5_
    clear n0_ n1_ n2_ n3_ n4_ n5_
    refine start_ (n:=9) (S:=fun w'=>w'.cell? ⟨gb6,0,none⟩ = some (.slice Ao13 t2.length co13)) (ds:=[8]) #[false,false,false,false,false,false,false,false,false] (by kernel_rfl) rfl rfl ((blk_cell BK6.out 0).trans rfl) (fun hHeld=>?_);refine with_tabW spec_someTree.tab5 spec_someTree.bits5 (fun HT_ HW_=>?_)
    generalize w18.drew = w19 at HO4 BK1 BK6 HI0 HK HB hHeld ⊢
    refine pure_ (i:=0) (N:=some 16) (v:=?_) (a':=?_) #[true,false,false,false,false,false,false,false,false] rfl rfl (any_of HT_.out (by kernel_rfl)) (fun _ _ _ h=>h) (Or.inl ⟨by rfl,?_⟩) ?_ ?_
    rotate_left
    ·intro w'
     go_simp
     with_reducible rfl
    rotate_left
    ·simp only [Act.put,s1_,s2_,s3_,i64_w,i32_w]
     rfl
    refine pure_ (i:=2) (N:=some 18) (v:=?_) (a':=?_) #[true,false,true,false,false,false,false,false,false] rfl rfl (any_of HT_.out (by kernel_rfl)) (fun _ _ _ h=>h) (Or.inl ⟨by rfl,?_⟩) ?_ ?_
    rotate_left
    ·intro w'
     go_simp
     with_reducible rfl
    rotate_left
    ·simp only [Act.put,s1_,s2_,s3_,i64_w,i32_w]
     rfl
    refine pure_ (i:=3) (N:=some 19) (v:=?_) (a':=?_) #[true,false,true,true,false,false,false,false,false] rfl rfl (any_of HT_.out (by kernel_rfl)) (fun _ _ _ h=>h) (Or.inl ⟨by rfl,?_⟩) ?_ ?_
    rotate_left
    ·intro w'
     go_simp
     with_reducible rfl
    rotate_left
    ·simp only [Act.put,s1_,s2_,s3_,i64_w,i32_w]
     rfl
    refine take_ (i:=1) (N:=some 17) (v:=?_) (a':=?_) #[true,true,true,true,false,false,false,false,false] rfl rfl (take_ofW HT_.out HW_.out (by kernel_rfl)) (fun _ _ _ h=>h) (Or.inl ⟨by rfl,?_⟩) hHeld ?_ ?_
    rotate_left
    ·intro w' s0
     go_simp
     with_reducible rfl
    rotate_left
    ·simp only [Act.put,s1_,s2_,s3_,i64_w,i32_w]
     rfl
    refine one_ (i:=4) (N:=some 20) #[true,true,true,true,true,false,false,false,false] rfl rfl (one_of HT_.out (by kernel_rfl)) (by decide) (fun K hK=>?_)
    refine Kd.R_lit_step Kd.string _ 9 ?hg (N:=20) ?hd (xs:=([(⟨#[]⟩ : ByteArray),(⟨#[97,110,121]⟩ : ByteArray),(⟨#[65]⟩ : ByteArray),(⟨#[116,111,111,108,111,110,103]⟩ : ByteArray)] : List ByteArray)) (inner:=[.string (⟨#[]⟩ : ByteArray),.string (⟨#[97,110,121]⟩ : ByteArray),.string (⟨#[65]⟩ : ByteArray),.string (⟨#[116,111,111,108,111,110,103]⟩ : ByteArray)]) (ok:=fun _=>True) (okp:=fun _=>True) ?hr ?hp (fun _ hk=>hk) trivial (Below.refl _ _) (Nat.le_refl _) (by simp) ?_;(case hd=>rfl);(case hg=>rfl);(case hr=>first | (go_simp;done) | (go_simp;rfl));(case hp=>exact (Reps.one (show Kd.M Kd.string _ _ _ (⟨#[]⟩ : ByteArray) [.string (⟨#[]⟩ : ByteArray)] from rfl) (Reps.one (show Kd.M Kd.string _ _ _ (⟨#[97,110,121]⟩ : ByteArray) [.string (⟨#[97,110,121]⟩ : ByteArray)] from rfl) (Reps.one (show Kd.M Kd.string _ _ _ (⟨#[65]⟩ : ByteArray) [.string (⟨#[65]⟩ : ByteArray)] from rfl) (Reps.one (show Kd.M Kd.string _ _ _ (⟨#[116,111,111,108,111,110,103]⟩ : ByteArray) [.string (⟨#[116,111,111,108,111,110,103]⟩ : ByteArray)] from rfl) (Reps.none _ _))))))
    intro v12 w20 ho21 hb hg_ hnew_
    clear hg_ hnew_
    (first | rw [← Ny11.out] at ho21 | (simp only [Int.reduceToNat] at ho21;rw [← Ny11.out] at ho21))
    have n0_:=rb_ HO4 hb
    have n1_:=a0_ (Kd.R_lower ho21 (keep_size (w:=w) (g:=g) (row:=none) hk_))
    have n2_:=a0_ (IsS81.below is0_ hb)
    have n3_:=kb_ BK1 hb
    have n4_:=kb_ BK6 hb
    have n5_:=a0_ (KeepBut.trans (w:=w) hk_ (KeepBut.of_below hb g none) (.inl rfl))
    have n6_:=a0_ (below_step hbi0_ hb)
    clear HO4
    clear HI0
    clear BK1
    clear BK6
    clear HK
    clear HB
    have HO4:=n0_
    have HO13:=n1_
    have HI0:=n2_
    have BK1:=n3_
    have BK6:=n4_
    have HK:=n5_
    have HB:=n6_
    clear n0_ n1_ n2_ n3_ n4_ n5_ n6_
    clear hb ho21
    obtain ⟨Ao22,co22,eo22⟩:=Kd.R_slice HO13.out
    (first | subst eo22 | (injection eo22 with f1_ f2_ f3_;have f4_:=f1_.symm;have f5_:=f3_.symm;clear f1_ f2_ f3_;subst f4_;subst f5_))
    refine hK.out _ _ ((blk_cell BK6.out 0).trans rfl) (fun hHeld=>?_)
    clear hK K
    refine norm_ (a':=?_) ?_ ?_
    rotate_left
    ·show Act.put _ (some 20) _ = _
     simp only [Act.put,s1_,s2_,s3_,i64_w,i32_w]
     rfl
    refine one_ (i:=5) (N:=some 21) #[true,true,true,true,true,true,false,false,false] rfl rfl (one_of HT_.out (by kernel_rfl)) (by decide) (fun K hK=>?_)
    refine goes_ Try.func84 (by kernel_rfl) rfl #[.pointer (some ⟨g,0,none⟩),.slice Ao22 y11.length co22] (by rfl) rfl rfl lm_ ?_
    with_reducible refine (spec_reader_of.calls k g s0_0 t10 _ _ y11 t14 t15 w0 _ ?side1 ?side2 ?side3 ?side4 ?side5 A6.out).mono ?_
    (case side1=>exact is0_)
    (case side2=>exact hbi0_)
    (case side3=>exact cc_ (Kd.R_reads' HO13.out).2.2)
    (case side4=>exact (Kd.R_reads' HO13.out).2.1)
    (case side5=>exact far_slice (IsS81.own_ne HI0.out HO13.out (by decide)))
    rintro e w23 ⟨rfl,hi,hb,hk⟩
    refine ⟨_,rfl,?_⟩
    have n0_:=kk_ hk BK1 NB1_0
    have n1_:=a0_ (Kd.R_mono (Kd.R_keep (IsS81.apart (is0_ : IsS81 w0 _ g s0_0 t10) (rr_ HO4.out) (by decide)) hk (fun _ h=>h.2)) (fun _ h=>h.1))
    have n2_:=kk_ hk BK6 NB6_0
    have n3_:=a0_ (Kd.R_mono (Kd.R_keep (IsS81.apart (is0_ : IsS81 w0 _ g s0_0 t10) (rr_ HO13.out) (by decide)) hk (fun _ h=>h.2)) (fun _ h=>h.1))
    have n4_:=a0_ (KeepBut.trans (w:=w) hk_ hk (.inl rfl))
    have n5_:=a0_ (hb)
    have n6_:=a0_ (hi)
    clear BK1
    clear HO4
    clear BK6
    clear HO13
    clear HK
    clear HB
    clear HI0
    have BK1:=n0_
    have HO4:=n1_
    have BK6:=n2_
    have HO13:=n3_
    have HK:=n4_
    have HB:=n5_
    have HI0:=n6_
    clear n0_ n1_ n2_ n3_ n4_ n5_ n6_
    (try clear hb)
    (try clear hb2)
    (try clear hk)
    (try clear hi)
    have p9 : 0 ≤ (t7 : Int):=of_decide_eq_true (by first | (with_reducible assumption) | assumption)
    have q9 : (t7 : Int) < ((t2.length : Int) : Int):=of_decide_eq_true (by first | (with_reducible assumption) | assumption)
    obtain ⟨go9,co9,eo9,gb9,gl9,cl9,HG9⟩:=Kd.R_form HO4.out (by omega)
    (first | cases eo9 | (injection eo9 with ea_ en_ ec_;(first | subst ea_ | (injection ea_ with ea_;subst ea_));subst ec_;clear en_))
    have GB9:=a0_ gb9
    have GG9:=a0_ HG9
    clear gb9 gl9 HG9
    obtain ⟨ce9,hcl9,hM9,hcc9,hfr9⟩:=Kd.R_elem HO4.out z85 (t7 : Int) p9 q9
    obtain rfl:=k85_openM hM9
    have hx9_0 : World.cell? _ ⟨go9,(t7 : Int).toNat * 2,none⟩ = some (.string ((rd_T85 t2 t7).f0)):=hcc9 0 _ rfl
    have hx9_1 : World.cell? _ ⟨go9,(t7 : Int).toNat * 2 + 1,none⟩ = some (.int .i64 ((rd_T85 t2 t7).f1)):=hcc9 1 _ rfl
    have hf9_0 : World.frozen? _ ⟨go9,(t7 : Int).toNat * 2,none⟩ = false:=hfr9 0
    have hf9_1 : World.frozen? _ ⟨go9,(t7 : Int).toNat * 2 + 1,none⟩ = false:=hfr9 1
    clear hcl9 hcc9 hfr9 hM9
    replace p9:=eq_true p9
    replace q9:=eq_true q9
    have HN0_go9:=a0_ (show g ≠ go9 from by have h_:=IsS81.own_ne HI0.out HO4.out (by decide);intro e_;exact h_ (by rw [e_];rfl))
    obtain ⟨ce24,hcl24,hM24,hcc24,hfr24⟩:=Kd.R_elem HO4.out z85 (t7 : Int) (of_decide_eq_true (by first | (with_reducible assumption) | assumption)) (by have h_ : (t7 : Int) < ((t2.length : Int) : Int):=of_decide_eq_true (by first | (with_reducible assumption) | assumption);first | exact h_ | (have e_:=(Kd.R_reads' HO4.out).1;omega) | simpa using h_)
    obtain rfl:=k85_openM hM24
    have HP24:=(Kd.R_seg HO4.out (t7 : Int) (of_decide_eq_true (by first | (with_reducible assumption) | assumption)) (by have h_ : (t7 : Int) < ((t2.length : Int) : Int):=of_decide_eq_true (by first | (with_reducible assumption) | assumption);first | exact h_ | (have e_:=(Kd.R_reads' HO4.out).1;omega) | simpa using h_) (seg:=[.string t14]) (j:=0) hcl24 hcc24 (show 1 ≤ 2 from by decide) (x':=(⟨t14,(rd_T85 t2 t7).f1⟩ : S85)) (k85_mkM _ _ _ (⟨t14,(rd_T85 t2 t7).f1⟩ : S85) ) (fun _ hk=>hk)).1
    rw [← Ny16.out] at HP24
    have HQ24:=a0_ HP24
    clear hcl24 hcc24 hfr24 hM24 HP24
    refine hK.out _ _ ((blk_cell BK6.out 0).trans rfl) (fun hHeld=>?_)
    clear hK K
    refine norm_ (a':=?_) ?_ ?_
    rotate_left
    ·show Act.put _ (some 21) _ = _
     simp only [Act.put,s1_,s2_,s3_,i64_w,i32_w]
     rfl
    refine pure_ (i:=6) (N:=some 22) (v:=?_) (a':=?_) #[true,true,true,true,true,true,true,false,false] rfl rfl (any_of HT_.out (by kernel_rfl)) (fun _ _ _ h=>h) (Or.inl ⟨by rfl,?_⟩) ?_ ?_
    rotate_left
    ·intro w'
     go_simp
     with_reducible rfl
    rotate_left
    ·simp only [Act.put,s1_,s2_,s3_,i64_w,i32_w]
     rfl
    refine pure_ (i:=7) (N:=some 23) (v:=?_) (a':=?_) #[true,true,true,true,true,true,true,true,false] rfl rfl (any_of HT_.out (by kernel_rfl)) (fun _ _ _ h=>h) (Or.inl ⟨by rfl,?_⟩) ?_ ?_
    rotate_left
    ·intro w'
     go_simp
     with_reducible rfl
    rotate_left
    ·simp only [Act.put,s1_,s2_,s3_,i64_w,i32_w]
     rfl
    refine last_ (i:=8) (N:=none) #[true,true,true,true,true,true,true,true,true] rfl rfl (one_of HT_.out (by kernel_rfl)) (by decide) (fun K hK=>?_)
    refine skip_ (w1:=?_) (by rfl) rfl ?_ ?_
    rotate_left
    ·go_simp
     rfl
    refine hK.out _ _ ?_
    clear hK K
    refine done_ (done_of HT_.out (by kernel_rfl)) ?_
    have n0_ : Aside0 (Kd.R k85 85 (w23.setCell ⟨go9,(t7 : Int).toNat * 2,none⟩ (.string t14)) w.heap.size (fun _=>True) (.slice (some ⟨go9,0,none⟩) t2.length co13) y16):=⟨by (with_reducible repeat (first | apply Kd.R_alloc | apply Kd.R_drewN | apply Kd.R_drew));exact HQ24.out⟩
    have n1_ : Aside0 (Kd.R Kd.string 9 (w23.setCell ⟨go9,(t7 : Int).toNat * 2,none⟩ (.string t14)) w.heap.size (fun _=>True) (.slice Ao22 y11.length co22) y11):=⟨by (with_reducible repeat (first | apply Kd.R_alloc | apply Kd.R_drewN | apply Kd.R_drew));exact Kd.R_mono (Kd.R_far (p:=⟨go9,(t7 : Int).toNat * 2,none⟩) (Kd.R_types HO13.out GG9.out (by decide)) (fun _ hk=>hk.2) (.string t14)) (fun _ hk=>trivial)⟩
    have n2_ : Aside0 ((w23.setCell ⟨go9,(t7 : Int).toNat * 2,none⟩ (.string t14)).heap[gb1]? = some (.cells #[.slice none 0 0] 25 (0,0))):=⟨by (with_reducible repeat (first | refine blk_drewN ?_ _ | refine blk_drew ?_ | refine blk_alloc ?_ _));refine blk_far ?_ (by have h_:=Kd.R_ne HO4.out BK1.out (by decide);intro e_;exact h_ (by rw [e_];rfl)) _;(with_reducible repeat (first | refine blk_drewN ?_ _ | refine blk_drew ?_ | refine blk_alloc ?_ _));exact BK1.out⟩
    have n3_ : Aside0 ((w23.setCell ⟨go9,(t7 : Int).toNat * 2,none⟩ (.string t14)).heap[gb6]? = some (.cells #[.slice (some ⟨go9,0,none⟩) t2.length co13] 25 (0,0))):=⟨by (with_reducible repeat (first | refine blk_drewN ?_ _ | refine blk_drew ?_ | refine blk_alloc ?_ _));refine blk_far ?_ (by have h_:=Kd.R_ne HO4.out BK6.out (by decide);intro e_;exact h_ (by rw [e_];rfl)) _;(with_reducible repeat (first | refine blk_drewN ?_ _ | refine blk_drew ?_ | refine blk_alloc ?_ _));exact BK6.out⟩
    have n4_ : Aside0 (IsS81 w0 (w23.setCell ⟨go9,(t7 : Int).toNat * 2,none⟩ (.string t14)) g s0_0 t15):=⟨is0_⟩
    have n5_ : Aside0 (KeepBut w (w23.setCell ⟨go9,(t7 : Int).toNat * 2,none⟩ (.string t14)) g none):=⟨hk_⟩
    have n6_ : Aside0 (Below w0.heap.size w0 (w23.setCell ⟨go9,(t7 : Int).toNat * 2,none⟩ (.string t14))):=⟨by repeat (first | (with_reducible first | exact HB.out | apply below_alloc | apply pw_below_drewN | apply below_drew1 | refine below_set ?_ (Nat.le_trans HL.out GB9.out) | refine below_set ?_ (IsS81.ge HI0.out) | refine below_set ?_ GE1.out | refine below_set ?_ GE6.out) | exact HB.out)⟩
    (try clear HO4)
    (try clear HO13)
    (try clear BK1)
    (try clear BK6)
    (try clear HI0)
    (try clear HK)
    (try clear HB)
    generalize (w23.setCell ⟨go9,(t7 : Int).toNat * 2,none⟩ (.string t14)) = w25 at n0_ n1_ n2_ n3_ n4_ n5_ n6_ ⊢
    have HO4:=n0_
    have HO13:=n1_
    have BK1:=n2_
    have BK6:=n3_
    have HI0:=n4_
    have HK:=n5_
    have HB:=n6_
    clear n0_ n1_ n2_ n3_ n4_ n5_ n6_
    have hcz26_0 : w25.cell? ⟨gb6,0,none⟩ = some (.slice (some ⟨go9,0,none⟩) t2.length co13):=(blk_cell BK6.out 0).trans rfl
    have hfz26_0:=blk_frozen BK6.out 0
    have hnb27:=NB1_0.out
    have hnc27:=NB0_1.out
    have hcz28_0 : w25.cell? ⟨gb1,0,none⟩ = some (.slice none 0 0):=(blk_cell BK1.out 0).trans rfl
    have hfz28_0:=blk_frozen BK1.out 0
    try go_wp2
    refine bodyPost_ret (results_cell_row rfl _ _ gb1 25 #[.slice (some ⟨go9,0,none⟩) t2.length co13] (0,0) _ rfl (by (with_reducible repeat (first | refine blk_drewN ?_ _ | refine blk_drew ?_ | refine blk_alloc ?_ _));refine blk_put (cs:=#[.slice none 0 0]) ?_ 0 _ rfl;(with_reducible repeat (first | refine blk_drewN ?_ _ | refine blk_drew ?_ | refine blk_alloc ?_ _));exact BK1.out) Try.underlying25 rfl (by kernel_rfl)) rfl ?_
    exact ⟨_,by first | rfl | (simp [errW_none,errW_some] <;> rfl) | (simp [*,errW_none,errW_some] <;> rfl),by (with_reducible repeat (first | apply Kd.R_alloc | apply Kd.R_drewN | apply Kd.R_drew));exact Kd.R_mono (Kd.R_far (p:=⟨gb1,0,none⟩) (Kd.R_types HO4.out BK1.out (by decide)) (fun _ hk=>hk.2) (.slice (some ⟨go9,0,none⟩) t2.length co13)) (fun _ hk=>trivial),is0_,hbi0_,hk_⟩
   ·rw [if_neg c8] at H
    exact absurd H (by simp)
  ·rw [if_neg c7] at H
   exact absurd H (by simp)
 ·rw [if_neg c5] at H
  have c5b0 : (t9 == 0) = false:=beq_eq_false_iff_ne.mpr c5
  have c5b1 : (t9 != 0) = true:=bne_iff_ne.mpr c5
  by_cases c29 : t9 = 1
  ·rw [if_pos c29] at H
   have c29b0 : (t9 == 1) = true:=beq_iff_eq.mpr c29
   have c29b1 : (t9 != 1) = false:=bne_eq_false_iff_eq.mpr c29
   clear c29
   obtain ⟨y17,hy17⟩ : ∃ y_ : List Int,y_ = (([t7,(-1),8,(-2)] : List Int)):=⟨_,rfl⟩
   replace H : ((spec_reader_one.f k s0_0 t10 y17).bind fun bt20=>(if 0 ≤ t7 then (if t7 < (t2.length : Int) then (some ((t2.set (t7 : Int).toNat (⟨(rd_T85 t2 t7).f0,bt20.1⟩ : S85)),bt20.2)) else (none)) else (none))) = some (r1,r2):=by first | (rw [hy17];with_reducible exact H) | (have H2_:=(Option.bind_some _ _).symm.trans H;rw [hy17];with_reducible exact H2_) | (have H2_:=(Option.bind_some _ _).symm.trans H;with_reducible exact H2_) | with_reducible exact H | (rw [hy17];exact H) | exact H
   have Ny17:=a0_ hy17
   clear hy17
   replace H:=Option.bind_eq_some_iff.mp H
   obtain ⟨⟨t20,t21⟩,A300,H⟩:=H
   try dsimp only at H
   have A30:=a0_ A300
   clear A300
   by_cases c31 : 0 ≤ t7
   ·rw [if_pos c31] at H
    have c31b0 : decide (0 ≤ t7) = true:=decide_eq_true c31
    clear c31
    by_cases c32 : t7 < (t2.length : Int)
    ·rw [if_pos c32] at H
     have c32b0 : decide (t7 < (t2.length : Int)) = true:=decide_eq_true c32
     clear c32
     obtain ⟨y22,hy22⟩ : ∃ y_ : List (S85),y_ = (t2.set (t7 : Int).toNat (⟨(rd_T85 t2 t7).f0,t20⟩ : S85)):=⟨_,rfl⟩
     replace H : (some (y22,t21)) = some (r1,r2):=by first | (rw [hy22];with_reducible exact H) | (have H2_:=(Option.bind_some _ _).symm.trans H;rw [hy22];with_reducible exact H2_) | (have H2_:=(Option.bind_some _ _).symm.trans H;with_reducible exact H2_) | with_reducible exact H | (rw [hy22];exact H) | exact H
     have Ny22:=a0_ hy22
     clear hy22
     simp only [Option.some.injEq,Prod.mk.injEq] at H
     obtain ⟨rfl,rfl⟩:=H
     go_enter Try.func61,Try.ntmps61
     try go_wp2_with (first | ((with_reducible refine gate_dst (N:=2) rfl ?_);refine box_event ?hg (N:=2) ?hd (cs:=#[.slice none 0 0]) (t:=25) ?hr ?_;(case hd=>rfl);(case hg=>rfl);(case hr=>first | (go_simp;done) | (go_simp;rfl));intro gb1 hg w34 hbox hb;have n0_:=a0_ (IsS81.below is0_ hb);have n1_:=a0_ (KeepBut.trans (w:=w) hk_ (KeepBut.of_below hb g none) (.inl rfl));have n2_:=a0_ (below_step hbi0_ hb);have n3_:=a0_ (hbox);have n4_:=a0_ ((by rw [hg];exact (keep_size (w:=w) (g:=g) (row:=none) hk_) : w.heap.size ≤ gb1));have n5_:=a0_ ((Nat.le_trans HW0.out (by rw [hg];exact (keep_size (w:=w) (g:=g) (row:=none) hk_) : w.heap.size ≤ gb1) : w0.heap.size ≤ gb1));have n6_:=a0_ ((by rw [hg];exact Nat.ne_of_lt (IsS81.lt (is0_ : IsS81 w0 _ g s0_0 s0_1)) : g ≠ gb1));have n7_:=a0_ ((by rw [hg];exact Nat.ne_of_gt (IsS81.lt (is0_ : IsS81 w0 _ g s0_0 s0_1)) : gb1 ≠ g));clear HI0 HK HB;have HI0:=n0_;have HK:=n1_;have HB:=n2_;have BK1:=n3_;have GW1:=n4_;have GE1:=n5_;have NB0_1:=n6_;have NB1_0:=n7_;clear n0_ n1_ n2_ n3_ n4_ n5_ n6_ n7_;clear hb hbox hg) | ((with_reducible refine gate_callee (f:=83) rfl ?_);refine goesL_ (some 6) rfl rfl Try.func83 (by kernel_rfl) rfl #[.pointer (some ⟨g,0,none⟩)] rfl lm_ ?_;(with_reducible refine (spec_goodTree.calls k g s0_0 s0_1 t2 t5 w0 _ ?side1 ?side2 A2.out).mono ?_);(case side1=>exact is0_);(case side2=>exact hbi0_);rintro e w35 ⟨v3,rfl,ho0,hi,hb,hk⟩;refine ⟨_,rfl,?_⟩;replace BK1:=kk_ hk BK1 NB1_0;have HO4:=a0_ (Kd.R_lower ho0 (keep_size (w:=w) (g:=g) (row:=none) hk_));replace HK:=a0_ (KeepBut.trans (w:=w) hk_ hk (.inl rfl));replace HI0:=a0_ (hi);replace HB:=a0_ (hb);(try clear hb);(try clear ho0)) | ((with_reducible refine gate_dst (N:=3) rfl ?_);refine box_event ?hg (N:=3) ?hd (cs:=#[.slice none 0 0]) (t:=25) ?hr ?_;(case hd=>rfl);(case hg=>rfl);(case hr=>first | (go_simp;done) | (go_simp;rfl));intro gb6 hg w36 hbox hb;have n0_:=rb_ HO4 hb;have n1_:=a0_ (IsS81.below is0_ hb);have n2_:=kb_ BK1 hb;have n3_:=a0_ (KeepBut.trans (w:=w) hk_ (KeepBut.of_below hb g none) (.inl rfl));have n4_:=a0_ (below_step hbi0_ hb);have n5_:=a0_ (hbox);have n6_:=a0_ ((by rw [hg];exact (keep_size (w:=w) (g:=g) (row:=none) hk_) : w.heap.size ≤ gb6));have n7_:=a0_ ((Nat.le_trans HW0.out (by rw [hg];exact (keep_size (w:=w) (g:=g) (row:=none) hk_) : w.heap.size ≤ gb6) : w0.heap.size ≤ gb6));have n8_:=a0_ ((by rw [hg];exact Nat.ne_of_lt (blk_lt (bb_ BK1.out)) : gb1 ≠ gb6));have n9_:=a0_ ((by rw [hg];exact Nat.ne_of_gt (blk_lt (bb_ BK1.out)) : gb6 ≠ gb1));have n10_:=a0_ ((by rw [hg];exact Nat.ne_of_lt (IsS81.lt (is0_ : IsS81 w0 _ g s0_0 t5)) : g ≠ gb6));have n11_:=a0_ ((by rw [hg];exact Nat.ne_of_gt (IsS81.lt (is0_ : IsS81 w0 _ g s0_0 t5)) : gb6 ≠ g));clear HO4 HI0;clear BK1 HK HB;have HO4:=n0_;have HI0:=n1_;have BK1:=n2_;have HK:=n3_;have HB:=n4_;have BK6:=n5_;have GW6:=n6_;have GE6:=n7_;have NB1_6:=n8_;have NB6_1:=n9_;have NB0_6:=n10_;have NB6_0:=n11_;clear n0_ n1_ n2_ n3_ n4_ n5_ n6_ n7_ n8_ n9_ n10_ n11_;clear hb hbox hg;obtain ⟨Ao37,co37,eo37⟩:=Kd.R_slice HO4.out;subst eo37;have hnb38:=NB6_1.out;have hnc38:=NB1_6.out;have hnb39:=NB6_0.out;have hnc39:=NB0_6.out;have hcz40_0 : w36.cell? ⟨gb6,0,none⟩ = some (.slice none 0 0):=(blk_cell BK6.out 0).trans rfl;have hfz40_0:=blk_frozen BK6.out 0) | ((with_reducible refine gate_callee (f:=63) rfl ?_);refine goesL_ (some 11) rfl rfl Try.func63 (by kernel_rfl) rfl #[.pointer (some ⟨g,0,none⟩),.int .i64 (t2.length : Int)] rfl lm_ ?_;(with_reducible refine (spec_reader_pick.calls k g s0_0 t5 (t2.length : Int) t7 t8 w0 _ ?side1 ?side2 A3.out).mono ?_);(case side1=>exact is0_);(case side2=>exact hbi0_);rintro e w41 ⟨rfl,hi,hb,hk⟩;refine ⟨_,rfl,?_⟩;replace BK1:=kk_ hk BK1 NB1_0;replace HO4:=a0_ (Kd.R_mono (Kd.R_keep (IsS81.apart (is0_ : IsS81 w0 _ g s0_0 t5) (by (with_reducible repeat (first | apply Kd.R_alloc | apply Kd.R_drewN | apply Kd.R_drew));exact (Kd.R_mono (Kd.R_far (p:=⟨gb6,0,none⟩) (Kd.R_types HO4.out BK6.out (by decide)) (fun _ hk=>hk.2) (.slice Ao37 t2.length co37)) (fun _ h_=>h_.1))) (by decide)) hk (fun _ h=>h.2)) (fun _ h=>h.1));replace BK6:=a0_ (KeepBut.blk hk (g':=gb6) (o:=.cells #[.slice Ao37 t2.length co37] 25 (0,0)) (by (with_reducible repeat (first | refine blk_drewN ?_ _ | refine blk_drew ?_ | refine blk_alloc ?_ _));refine blk_put (cs:=#[.slice none 0 0]) ?_ 0 _ rfl;(with_reducible repeat (first | refine blk_drewN ?_ _ | refine blk_drew ?_ | refine blk_alloc ?_ _));exact BK6.out) NB6_0.out (by simp));replace HK:=a0_ (KeepBut.trans (w:=w) hk_ hk (.inl rfl));replace HI0:=a0_ (hi);replace HB:=a0_ (hb);(try clear hb);(try clear hb2);(try clear hk);(try clear hi)) | ((with_reducible refine gate_callee (f:=63) rfl ?_);refine goesL_ (some 13) rfl rfl Try.func63 (by kernel_rfl) rfl #[.pointer (some ⟨g,0,none⟩),.int .i64 24] rfl lm_ ?_;(with_reducible refine (spec_reader_pick.calls k g s0_0 t8 24 t9 t10 w0 _ ?side1 ?side2 A4.out).mono ?_);(case side1=>exact is0_);(case side2=>exact hbi0_);rintro e w42 ⟨rfl,hi,hb,hk⟩;refine ⟨_,rfl,?_⟩;replace BK1:=kk_ hk BK1 NB1_0;replace HO4:=a0_ (Kd.R_mono (Kd.R_keep (IsS81.apart (is0_ : IsS81 w0 _ g s0_0 t8) (rr_ HO4.out) (by decide)) hk (fun _ h=>h.2)) (fun _ h=>h.1));replace BK6:=kk_ hk BK6 NB6_0;replace HK:=a0_ (KeepBut.trans (w:=w) hk_ hk (.inl rfl));replace HI0:=a0_ (hi);replace HB:=a0_ (hb);(try clear hb);(try clear hb2);(try clear hk);(try clear hi)))
     have n0_:=a0_ (Kd.R_drew HO4.out)
     have n1_:=a0_ (blk_drew BK1.out)
     have n2_:=a0_ (blk_drew BK6.out)
     have n3_:=a0_ (IsS81.drew HI0.out)
     have n4_:=a0_ (keep_drew HK.out)
     have n5_:=a0_ (below_drew1 HB.out)
     clear HO4
     clear BK1
     clear BK6
     clear HI0
     clear HK
     clear HB
     have HO4:=n0_
     have BK1:=n1_
     have BK6:=n2_
     have HI0:=n3_
     have HK:=n4_
     have HB:=n5_
     clear n0_ n1_ n2_ n3_ n4_ n5_
     refine start_ (n:=10) (S:=fun w'=>w'.cell? ⟨gb6,0,none⟩ = some (.slice Ao37 t2.length co37)) (ds:=[9]) #[false,false,false,false,false,false,false,false,false,false] (by kernel_rfl) rfl rfl ((blk_cell BK6.out 0).trans rfl) (fun hHeld=>?_);refine with_tabW spec_someTree.tab7 spec_someTree.bits7 (fun HT_ HW_=>?_)
     generalize w42.drew = w43 at HO4 BK1 BK6 HI0 HK HB hHeld ⊢
     refine pure_ (i:=0) (N:=some 26) (v:=?_) (a':=?_) #[true,false,false,false,false,false,false,false,false,false] rfl rfl (any_of HT_.out (by kernel_rfl)) (fun _ _ _ h=>h) (Or.inl ⟨by rfl,?_⟩) ?_ ?_
     rotate_left
     ·intro w'
      go_simp
      with_reducible rfl
     rotate_left
     ·simp only [Act.put,s1_,s2_,s3_,i64_w,i32_w]
      rfl
     refine pure_ (i:=2) (N:=some 28) (v:=?_) (a':=?_) #[true,false,true,false,false,false,false,false,false,false] rfl rfl (any_of HT_.out (by kernel_rfl)) (fun _ _ _ h=>h) (Or.inl ⟨by rfl,?_⟩) ?_ ?_
     rotate_left
     ·intro w'
      go_simp
      with_reducible rfl
     rotate_left
     ·simp only [Act.put,s1_,s2_,s3_,i64_w,i32_w]
      rfl
     refine pure_ (i:=3) (N:=some 29) (v:=?_) (a':=?_) #[true,false,true,true,false,false,false,false,false,false] rfl rfl (any_of HT_.out (by kernel_rfl)) (fun _ _ _ h=>h) (Or.inl ⟨by rfl,?_⟩) ?_ ?_
     rotate_left
     ·intro w'
      go_simp
      with_reducible rfl
     rotate_left
     ·simp only [Act.put,s1_,s2_,s3_,i64_w,i32_w]
      rfl
     refine pure_ (i:=4) (N:=some 30) (v:=?_) (a':=?_) #[true,false,true,true,true,false,false,false,false,false] rfl rfl (any_of HT_.out (by kernel_rfl)) (fun _ _ _ h=>h) (Or.inl ⟨by rfl,?_⟩) ?_ ?_
     rotate_left
     ·intro w'
      go_simp
      with_reducible rfl
     rotate_left
     ·simp only [Act.put,s1_,s2_,s3_,i64_w,i32_w]
      rfl
     refine take_ (i:=1) (N:=some 27) (v:=?_) (a':=?_) #[true,true,true,true,true,false,false,false,false,false] rfl rfl (take_ofW HT_.out HW_.out (by kernel_rfl)) (fun _ _ _ h=>h) (Or.inl ⟨by rfl,?_⟩) hHeld ?_ ?_
     rotate_left
     ·intro w' s0
      go_simp
      with_reducible rfl
     rotate_left
     ·simp only [Act.put,s1_,s2_,s3_,i64_w,i32_w]
      rfl
     refine one_ (i:=5) (N:=some 31) #[true,true,true,true,true,true,false,false,false,false] rfl rfl (one_of HT_.out (by kernel_rfl)) (by decide) (fun K hK=>?_)
     refine Kd.R_lit_step (Kd.int .i64) _ 3 ?hg (N:=31) ?hd (xs:=([t7,(-1),8,(-2)] : List Int)) (inner:=[.int .i64 t7,.int .i64 (-1),.int .i64 8,.int .i64 (-2)]) (ok:=fun _=>True) (okp:=fun _=>True) ?hr ?hp (fun _ hk=>hk) trivial (Below.refl _ _) (Nat.le_refl _) (by simp) ?_;(case hd=>rfl);(case hg=>rfl);(case hr=>first | (go_simp;done) | (go_simp;rfl));(case hp=>exact (Reps.one (show Kd.M (Kd.int .i64) _ _ _ t7 [.int .i64 t7] from rfl) (Reps.one (show Kd.M (Kd.int .i64) _ _ _ (-1) [.int .i64 (-1)] from rfl) (Reps.one (show Kd.M (Kd.int .i64) _ _ _ 8 [.int .i64 8] from rfl) (Reps.one (show Kd.M (Kd.int .i64) _ _ _ (-2) [.int .i64 (-2)] from rfl) (Reps.none _ _))))))
     intro v18 w44 ho45 hb hg_ hnew_
     clear hg_ hnew_
     (first | rw [← Ny17.out] at ho45 | (simp only [Int.reduceToNat] at ho45;rw [← Ny17.out] at ho45))
     have n0_:=rb_ HO4 hb
     have n1_:=a0_ (Kd.R_lower ho45 (keep_size (w:=w) (g:=g) (row:=none) hk_))
     have n2_:=a0_ (IsS81.below is0_ hb)
     have n3_:=kb_ BK1 hb
     have n4_:=kb_ BK6 hb
     have n5_:=a0_ (KeepBut.trans (w:=w) hk_ (KeepBut.of_below hb g none) (.inl rfl))
     have n6_:=a0_ (below_step hbi0_ hb)
     clear HO4
     clear HI0
     clear BK1
     clear BK6
     clear HK
     clear HB
     have HO4:=n0_
     have HO19:=n1_
     have HI0:=n2_
     have BK1:=n3_
     have BK6:=n4_
     have HK:=n5_
     have HB:=n6_
     clear n0_ n1_ n2_ n3_ n4_ n5_ n6_
     clear hb ho45
     obtain ⟨Ao46,co46,eo46⟩:=Kd.R_slice HO19.out
     (first | subst eo46 | (injection eo46 with f1_ f2_ f3_;have f4_:=f1_.symm;have f5_:=f3_.symm;clear f1_ f2_ f3_;subst f4_;subst f5_))
     refine hK.out _ _ ((blk_cell BK6.out 0).trans rfl) (fun hHeld=>?_)
     clear hK K
     refine norm_ (a':=?_) ?_ ?_
     rotate_left
     ·show Act.put _ (some 31) _ = _
      simp only [Act.put,s1_,s2_,s3_,i64_w,i32_w]
      rfl
     refine one_ (i:=6) (N:=some 32) #[true,true,true,true,true,true,true,false,false,false] rfl rfl (one_of HT_.out (by kernel_rfl)) (by decide) (fun K hK=>?_)
     refine goes_ Try.func64 (by kernel_rfl) rfl #[.pointer (some ⟨g,0,none⟩),.slice Ao46 y17.length co46] (by rfl) rfl rfl lm_ ?_
     with_reducible refine (spec_reader_one.calls k g s0_0 t10 _ _ y17 t20 t21 w0 _ ?side1 ?side2 ?side3 ?side4 ?side5 A30.out).mono ?_
     (case side1=>exact is0_)
     (case side2=>exact hbi0_)
     (case side3=>exact cc_ (Kd.R_reads' HO19.out).2.2)
     (case side4=>exact (Kd.R_reads' HO19.out).2.1)
     (case side5=>exact far_slice (IsS81.own_ne HI0.out HO19.out (by decide)))
     rintro e w47 ⟨rfl,hi,hb,hk⟩
     refine ⟨_,rfl,?_⟩
     have n0_:=kk_ hk BK1 NB1_0
     have n1_:=a0_ (Kd.R_mono (Kd.R_keep (IsS81.apart (is0_ : IsS81 w0 _ g s0_0 t10) (rr_ HO4.out) (by decide)) hk (fun _ h=>h.2)) (fun _ h=>h.1))
     have n2_:=kk_ hk BK6 NB6_0
     have n3_:=a0_ (Kd.R_mono (Kd.R_keep (IsS81.apart (is0_ : IsS81 w0 _ g s0_0 t10) (rr_ HO19.out) (by decide)) hk (fun _ h=>h.2)) (fun _ h=>h.1))
     have n4_:=a0_ (KeepBut.trans (w:=w) hk_ hk (.inl rfl))
     have n5_:=a0_ (hb)
     have n6_:=a0_ (hi)
     clear BK1
     clear HO4
     clear BK6
     clear HO19
     clear HK
     clear HB
     clear HI0
     have BK1:=n0_
     have HO4:=n1_
     have BK6:=n2_
     have HO19:=n3_
     have HK:=n4_
     have HB:=n5_
     have HI0:=n6_
     clear n0_ n1_ n2_ n3_ n4_ n5_ n6_
     (try clear hb)
     (try clear hb2)
     (try clear hk)
     (try clear hi)
     have p33 : 0 ≤ (t7 : Int):=of_decide_eq_true (by first | (with_reducible assumption) | assumption)
     have q33 : (t7 : Int) < ((t2.length : Int) : Int):=of_decide_eq_true (by first | (with_reducible assumption) | assumption)
     obtain ⟨go33,co33,eo33,gb33,gl33,cl33,HG33⟩:=Kd.R_form HO4.out (by omega)
     (first | cases eo33 | (injection eo33 with ea_ en_ ec_;(first | subst ea_ | (injection ea_ with ea_;subst ea_));subst ec_;clear en_))
     have GB33:=a0_ gb33
     have GG33:=a0_ HG33
     clear gb33 gl33 HG33
     obtain ⟨ce33,hcl33,hM33,hcc33,hfr33⟩:=Kd.R_elem HO4.out z85 (t7 : Int) p33 q33
     obtain rfl:=k85_openM hM33
     have hx33_0 : World.cell? _ ⟨go33,(t7 : Int).toNat * 2,none⟩ = some (.string ((rd_T85 t2 t7).f0)):=hcc33 0 _ rfl
     have hx33_1 : World.cell? _ ⟨go33,(t7 : Int).toNat * 2 + 1,none⟩ = some (.int .i64 ((rd_T85 t2 t7).f1)):=hcc33 1 _ rfl
     have hf33_0 : World.frozen? _ ⟨go33,(t7 : Int).toNat * 2,none⟩ = false:=hfr33 0
     have hf33_1 : World.frozen? _ ⟨go33,(t7 : Int).toNat * 2 + 1,none⟩ = false:=hfr33 1
     clear hcl33 hcc33 hfr33 hM33
     replace p33:=eq_true p33
     replace q33:=eq_true q33
     have HN0_go33:=a0_ (show g ≠ go33 from by have h_:=IsS81.own_ne HI0.out HO4.out (by decide);intro e_;exact h_ (by rw [e_];rfl))
     obtain ⟨ce48,hcl48,hM48,hcc48,hfr48⟩:=Kd.R_elem HO4.out z85 (t7 : Int) (of_decide_eq_true (by first | (with_reducible assumption) | assumption)) (by have h_ : (t7 : Int) < ((t2.length : Int) : Int):=of_decide_eq_true (by first | (with_reducible assumption) | assumption);first | exact h_ | (have e_:=(Kd.R_reads' HO4.out).1;omega) | simpa using h_)
     obtain rfl:=k85_openM hM48
     have HP48:=(Kd.R_seg HO4.out (t7 : Int) (of_decide_eq_true (by first | (with_reducible assumption) | assumption)) (by have h_ : (t7 : Int) < ((t2.length : Int) : Int):=of_decide_eq_true (by first | (with_reducible assumption) | assumption);first | exact h_ | (have e_:=(Kd.R_reads' HO4.out).1;omega) | simpa using h_) (seg:=[.int .i64 t20]) (j:=1) hcl48 hcc48 (show 2 ≤ 2 from by decide) (x':=(⟨(rd_T85 t2 t7).f0,t20⟩ : S85)) (k85_mkM _ _ _ (⟨(rd_T85 t2 t7).f0,t20⟩ : S85) ) (fun _ hk=>hk)).1
     rw [← Ny22.out] at HP48
     have HQ48:=a0_ HP48
     clear hcl48 hcc48 hfr48 hM48 HP48
     refine hK.out _ _ ((blk_cell BK6.out 0).trans rfl) (fun hHeld=>?_)
     clear hK K
     refine norm_ (a':=?_) ?_ ?_
     rotate_left
     ·show Act.put _ (some 32) _ = _
      simp only [Act.put,s1_,s2_,s3_,i64_w,i32_w]
      rfl
     refine pure_ (i:=7) (N:=some 33) (v:=?_) (a':=?_) #[true,true,true,true,true,true,true,true,false,false] rfl rfl (any_of HT_.out (by kernel_rfl)) (fun _ _ _ h=>h) (Or.inl ⟨by rfl,?_⟩) ?_ ?_
     rotate_left
     ·intro w'
      go_simp
      with_reducible rfl
     rotate_left
     ·simp only [Act.put,s1_,s2_,s3_,i64_w,i32_w]
      rfl
     refine pure_ (i:=8) (N:=some 34) (v:=?_) (a':=?_) #[true,true,true,true,true,true,true,true,true,false] rfl rfl (any_of HT_.out (by kernel_rfl)) (fun _ _ _ h=>h) (Or.inl ⟨by rfl,?_⟩) ?_ ?_
     rotate_left
     ·intro w'
      go_simp
      with_reducible rfl
     rotate_left
     ·simp only [Act.put,s1_,s2_,s3_,i64_w,i32_w]
      rfl
     refine last_ (i:=9) (N:=none) #[true,true,true,true,true,true,true,true,true,true] rfl rfl (one_of HT_.out (by kernel_rfl)) (by decide) (fun K hK=>?_)
     refine skip_ (w1:=?_) (by rfl) rfl ?_ ?_
     rotate_left
     ·go_simp
      rfl
     refine hK.out _ _ ?_
     clear hK K
     refine done_ (done_of HT_.out (by kernel_rfl)) ?_
     have n0_ : Aside0 (Kd.R k85 85 (w47.setCell ⟨go33,(t7 : Int).toNat * 2 + 1,none⟩ (.int .i64 t20)) w.heap.size (fun _=>True) (.slice (some ⟨go33,0,none⟩) t2.length co37) y22):=⟨by (with_reducible repeat (first | apply Kd.R_alloc | apply Kd.R_drewN | apply Kd.R_drew));exact HQ48.out⟩
     have n1_ : Aside0 (Kd.R (Kd.int .i64) 3 (w47.setCell ⟨go33,(t7 : Int).toNat * 2 + 1,none⟩ (.int .i64 t20)) w.heap.size (fun _=>True) (.slice Ao46 y17.length co46) y17):=⟨by (with_reducible repeat (first | apply Kd.R_alloc | apply Kd.R_drewN | apply Kd.R_drew));exact Kd.R_mono (Kd.R_far (p:=⟨go33,(t7 : Int).toNat * 2 + 1,none⟩) (Kd.R_types HO19.out GG33.out (by decide)) (fun _ hk=>hk.2) (.int .i64 t20)) (fun _ hk=>trivial)⟩
     have n2_ : Aside0 ((w47.setCell ⟨go33,(t7 : Int).toNat * 2 + 1,none⟩ (.int .i64 t20)).heap[gb1]? = some (.cells #[.slice none 0 0] 25 (0,0))):=⟨by (with_reducible repeat (first | refine blk_drewN ?_ _ | refine blk_drew ?_ | refine blk_alloc ?_ _));refine blk_far ?_ (by have h_:=Kd.R_ne HO4.out BK1.out (by decide);intro e_;exact h_ (by rw [e_];rfl)) _;(with_reducible repeat (first | refine blk_drewN ?_ _ | refine blk_drew ?_ | refine blk_alloc ?_ _));exact BK1.out⟩
     have n3_ : Aside0 ((w47.setCell ⟨go33,(t7 : Int).toNat * 2 + 1,none⟩ (.int .i64 t20)).heap[gb6]? = some (.cells #[.slice (some ⟨go33,0,none⟩) t2.length co37] 25 (0,0))):=⟨by (with_reducible repeat (first | refine blk_drewN ?_ _ | refine blk_drew ?_ | refine blk_alloc ?_ _));refine blk_far ?_ (by have h_:=Kd.R_ne HO4.out BK6.out (by decide);intro e_;exact h_ (by rw [e_];rfl)) _;(with_reducible repeat (first | refine blk_drewN ?_ _ | refine blk_drew ?_ | refine blk_alloc ?_ _));exact BK6.out⟩
     have n4_ : Aside0 (IsS81 w0 (w47.setCell ⟨go33,(t7 : Int).toNat * 2 + 1,none⟩ (.int .i64 t20)) g s0_0 t21):=⟨is0_⟩
     have n5_ : Aside0 (KeepBut w (w47.setCell ⟨go33,(t7 : Int).toNat * 2 + 1,none⟩ (.int .i64 t20)) g none):=⟨hk_⟩
     have n6_ : Aside0 (Below w0.heap.size w0 (w47.setCell ⟨go33,(t7 : Int).toNat * 2 + 1,none⟩ (.int .i64 t20))):=⟨by repeat (first | (with_reducible first | exact HB.out | apply below_alloc | apply pw_below_drewN | apply below_drew1 | refine below_set ?_ (Nat.le_trans HL.out GB33.out) | refine below_set ?_ (IsS81.ge HI0.out) | refine below_set ?_ GE1.out | refine below_set ?_ GE6.out) | exact HB.out)⟩
     (try clear HO4)
     (try clear HO19)
     (try clear BK1)
     (try clear BK6)
     (try clear HI0)
     (try clear HK)
     (try clear HB)
     generalize (w47.setCell ⟨go33,(t7 : Int).toNat * 2 + 1,none⟩ (.int .i64 t20)) = w49 at n0_ n1_ n2_ n3_ n4_ n5_ n6_ ⊢
     have HO4:=n0_
     have HO19:=n1_
     have BK1:=n2_
     have BK6:=n3_
     have HI0:=n4_
     have HK:=n5_
     have HB:=n6_
     clear n0_ n1_ n2_ n3_ n4_ n5_ n6_
     have hcz50_0 : w49.cell? ⟨gb6,0,none⟩ = some (.slice (some ⟨go33,0,none⟩) t2.length co37):=(blk_cell BK6.out 0).trans rfl
     have hfz50_0:=blk_frozen BK6.out 0
     have hnb51:=NB1_0.out
     have hnc51:=NB0_1.out
     have hcz52_0 : w49.cell? ⟨gb1,0,none⟩ = some (.slice none 0 0):=(blk_cell BK1.out 0).trans rfl
     have hfz52_0:=blk_frozen BK1.out 0
     try go_wp2
     refine bodyPost_ret (results_cell_row rfl _ _ gb1 25 #[.slice (some ⟨go33,0,none⟩) t2.length co37] (0,0) _ rfl (by (with_reducible repeat (first | refine blk_drewN ?_ _ | refine blk_drew ?_ | refine blk_alloc ?_ _));refine blk_put (cs:=#[.slice none 0 0]) ?_ 0 _ rfl;(with_reducible repeat (first | refine blk_drewN ?_ _ | refine blk_drew ?_ | refine blk_alloc ?_ _));exact BK1.out) Try.underlying25 rfl (by kernel_rfl)) rfl ?_
     exact ⟨_,by first | rfl | (simp [errW_none,errW_some] <;> rfl) | (simp [*,errW_none,errW_some] <;> rfl),by (with_reducible repeat (first | apply Kd.R_alloc | apply Kd.R_drewN | apply Kd.R_drew));exact Kd.R_mono (Kd.R_far (p:=⟨gb1,0,none⟩) (Kd.R_types HO4.out BK1.out (by decide)) (fun _ hk=>hk.2) (.slice (some ⟨go33,0,none⟩) t2.length co37)) (fun _ hk=>trivial),is0_,hbi0_,hk_⟩
    ·rw [if_neg c32] at H
     exact absurd H (by simp)
   ·rw [if_neg c31] at H
    exact absurd H (by simp)
  ·rw [if_neg c29] at H
   have c29b0 : (t9 == 1) = false:=beq_eq_false_iff_ne.mpr c29
   have c29b1 : (t9 != 1) = true:=bne_iff_ne.mpr c29
   by_cases c53 : t9 = 2
   ·rw [if_pos c53] at H
    have c53b0 : (t9 == 2) = true:=beq_iff_eq.mpr c53
    have c53b1 : (t9 != 2) = false:=bne_eq_false_iff_eq.mpr c53
    clear c53
    simp only [Option.some.injEq,Prod.mk.injEq] at H
    obtain ⟨rfl,rfl⟩:=H
    go_enter Try.func61,Try.ntmps61
    go_wp2_with (first | ((with_reducible refine gate_dst (N:=2) rfl ?_);refine box_event ?hg (N:=2) ?hd (cs:=#[.slice none 0 0]) (t:=25) ?hr ?_;(case hd=>rfl);(case hg=>rfl);(case hr=>first | (go_simp;done) | (go_simp;rfl));intro gb1 hg w54 hbox hb;have n0_:=a0_ (IsS81.below is0_ hb);have n1_:=a0_ (KeepBut.trans (w:=w) hk_ (KeepBut.of_below hb g none) (.inl rfl));have n2_:=a0_ (below_step hbi0_ hb);have n3_:=a0_ (hbox);have n4_:=a0_ ((by rw [hg];exact (keep_size (w:=w) (g:=g) (row:=none) hk_) : w.heap.size ≤ gb1));have n5_:=a0_ ((Nat.le_trans HW0.out (by rw [hg];exact (keep_size (w:=w) (g:=g) (row:=none) hk_) : w.heap.size ≤ gb1) : w0.heap.size ≤ gb1));have n6_:=a0_ ((by rw [hg];exact Nat.ne_of_lt (IsS81.lt (is0_ : IsS81 w0 _ g s0_0 s0_1)) : g ≠ gb1));have n7_:=a0_ ((by rw [hg];exact Nat.ne_of_gt (IsS81.lt (is0_ : IsS81 w0 _ g s0_0 s0_1)) : gb1 ≠ g));clear HI0 HK HB;have HI0:=n0_;have HK:=n1_;have HB:=n2_;have BK1:=n3_;have GW1:=n4_;have GE1:=n5_;have NB0_1:=n6_;have NB1_0:=n7_;clear n0_ n1_ n2_ n3_ n4_ n5_ n6_ n7_;clear hb hbox hg) | ((with_reducible refine gate_callee (f:=83) rfl ?_);refine goesL_ (some 6) rfl rfl Try.func83 (by kernel_rfl) rfl #[.pointer (some ⟨g,0,none⟩)] rfl lm_ ?_;(with_reducible refine (spec_goodTree.calls k g s0_0 s0_1 t2 t5 w0 _ ?side1 ?side2 A2.out).mono ?_);(case side1=>exact is0_);(case side2=>exact hbi0_);rintro e w55 ⟨v3,rfl,ho0,hi,hb,hk⟩;refine ⟨_,rfl,?_⟩;replace BK1:=kk_ hk BK1 NB1_0;have HO4:=a0_ (Kd.R_lower ho0 (keep_size (w:=w) (g:=g) (row:=none) hk_));replace HK:=a0_ (KeepBut.trans (w:=w) hk_ hk (.inl rfl));replace HI0:=a0_ (hi);replace HB:=a0_ (hb);(try clear hb);(try clear ho0)) | ((with_reducible refine gate_dst (N:=3) rfl ?_);refine box_event ?hg (N:=3) ?hd (cs:=#[.slice none 0 0]) (t:=25) ?hr ?_;(case hd=>rfl);(case hg=>rfl);(case hr=>first | (go_simp;done) | (go_simp;rfl));intro gb6 hg w56 hbox hb;have n0_:=rb_ HO4 hb;have n1_:=a0_ (IsS81.below is0_ hb);have n2_:=kb_ BK1 hb;have n3_:=a0_ (KeepBut.trans (w:=w) hk_ (KeepBut.of_below hb g none) (.inl rfl));have n4_:=a0_ (below_step hbi0_ hb);have n5_:=a0_ (hbox);have n6_:=a0_ ((by rw [hg];exact (keep_size (w:=w) (g:=g) (row:=none) hk_) : w.heap.size ≤ gb6));have n7_:=a0_ ((Nat.le_trans HW0.out (by rw [hg];exact (keep_size (w:=w) (g:=g) (row:=none) hk_) : w.heap.size ≤ gb6) : w0.heap.size ≤ gb6));have n8_:=a0_ ((by rw [hg];exact Nat.ne_of_lt (blk_lt (bb_ BK1.out)) : gb1 ≠ gb6));have n9_:=a0_ ((by rw [hg];exact Nat.ne_of_gt (blk_lt (bb_ BK1.out)) : gb6 ≠ gb1));have n10_:=a0_ ((by rw [hg];exact Nat.ne_of_lt (IsS81.lt (is0_ : IsS81 w0 _ g s0_0 t5)) : g ≠ gb6));have n11_:=a0_ ((by rw [hg];exact Nat.ne_of_gt (IsS81.lt (is0_ : IsS81 w0 _ g s0_0 t5)) : gb6 ≠ g));clear HO4 HI0;clear BK1 HK HB;have HO4:=n0_;have HI0:=n1_;have BK1:=n2_;have HK:=n3_;have HB:=n4_;have BK6:=n5_;have GW6:=n6_;have GE6:=n7_;have NB1_6:=n8_;have NB6_1:=n9_;have NB0_6:=n10_;have NB6_0:=n11_;clear n0_ n1_ n2_ n3_ n4_ n5_ n6_ n7_ n8_ n9_ n10_ n11_;clear hb hbox hg;obtain ⟨Ao57,co57,eo57⟩:=Kd.R_slice HO4.out;subst eo57;have hnb58:=NB6_1.out;have hnc58:=NB1_6.out;have hnb59:=NB6_0.out;have hnc59:=NB0_6.out;have hcz60_0 : w56.cell? ⟨gb6,0,none⟩ = some (.slice none 0 0):=(blk_cell BK6.out 0).trans rfl;have hfz60_0:=blk_frozen BK6.out 0) | ((with_reducible refine gate_callee (f:=63) rfl ?_);refine goesL_ (some 11) rfl rfl Try.func63 (by kernel_rfl) rfl #[.pointer (some ⟨g,0,none⟩),.int .i64 (t2.length : Int)] rfl lm_ ?_;(with_reducible refine (spec_reader_pick.calls k g s0_0 t5 (t2.length : Int) t7 t8 w0 _ ?side1 ?side2 A3.out).mono ?_);(case side1=>exact is0_);(case side2=>exact hbi0_);rintro e w61 ⟨rfl,hi,hb,hk⟩;refine ⟨_,rfl,?_⟩;replace BK1:=kk_ hk BK1 NB1_0;replace HO4:=a0_ (Kd.R_mono (Kd.R_keep (IsS81.apart (is0_ : IsS81 w0 _ g s0_0 t5) (by (with_reducible repeat (first | apply Kd.R_alloc | apply Kd.R_drewN | apply Kd.R_drew));exact (Kd.R_mono (Kd.R_far (p:=⟨gb6,0,none⟩) (Kd.R_types HO4.out BK6.out (by decide)) (fun _ hk=>hk.2) (.slice Ao57 t2.length co57)) (fun _ h_=>h_.1))) (by decide)) hk (fun _ h=>h.2)) (fun _ h=>h.1));replace BK6:=a0_ (KeepBut.blk hk (g':=gb6) (o:=.cells #[.slice Ao57 t2.length co57] 25 (0,0)) (by (with_reducible repeat (first | refine blk_drewN ?_ _ | refine blk_drew ?_ | refine blk_alloc ?_ _));refine blk_put (cs:=#[.slice none 0 0]) ?_ 0 _ rfl;(with_reducible repeat (first | refine blk_drewN ?_ _ | refine blk_drew ?_ | refine blk_alloc ?_ _));exact BK6.out) NB6_0.out (by simp));replace HK:=a0_ (KeepBut.trans (w:=w) hk_ hk (.inl rfl));replace HI0:=a0_ (hi);replace HB:=a0_ (hb);(try clear hb);(try clear hb2);(try clear hk);(try clear hi)) | ((with_reducible refine gate_callee (f:=63) rfl ?_);refine goesL_ (some 13) rfl rfl Try.func63 (by kernel_rfl) rfl #[.pointer (some ⟨g,0,none⟩),.int .i64 24] rfl lm_ ?_;(with_reducible refine (spec_reader_pick.calls k g s0_0 t8 24 t9 t10 w0 _ ?side1 ?side2 A4.out).mono ?_);(case side1=>exact is0_);(case side2=>exact hbi0_);rintro e w62 ⟨rfl,hi,hb,hk⟩;refine ⟨_,rfl,?_⟩;replace BK1:=kk_ hk BK1 NB1_0;replace HO4:=a0_ (Kd.R_mono (Kd.R_keep (IsS81.apart (is0_ : IsS81 w0 _ g s0_0 t8) (rr_ HO4.out) (by decide)) hk (fun _ h=>h.2)) (fun _ h=>h.1));replace BK6:=kk_ hk BK6 NB6_0;replace HK:=a0_ (KeepBut.trans (w:=w) hk_ hk (.inl rfl));replace HI0:=a0_ (hi);replace HB:=a0_ (hb);(try clear hb);have hnb63:=NB1_0.out;have hnc63:=NB0_1.out;have hcz64_0 : w62.cell? ⟨gb1,0,none⟩ = some (.slice none 0 0):=(blk_cell BK1.out 0).trans rfl;have hfz64_0:=blk_frozen BK1.out 0))
    refine bodyPost_ret (results_cell_row rfl _ _ gb1 25 #[.slice none 0 0] (0,0) _ rfl (by (with_reducible repeat (first | refine blk_drewN ?_ _ | refine blk_drew ?_ | refine blk_alloc ?_ _));refine blk_put (cs:=#[.slice none 0 0]) ?_ 0 _ rfl;(with_reducible repeat (first | refine blk_drewN ?_ _ | refine blk_drew ?_ | refine blk_alloc ?_ _));exact BK1.out) Try.underlying25 rfl (by kernel_rfl)) rfl ?_
    exact ⟨_,by first | rfl | (simp [errW_none,errW_some] <;> rfl) | (simp [*,errW_none,errW_some] <;> rfl),by first | exact Kd.R_nil _ _ _ _ _ | exact Kd.N_nil _ _ _ _ _ | exact Kd.V_nil _ _ _ _ _ | exact Kd.Q_nil _ _ _ _ _ | exact Kd.S_nil _ _ _ _ _,is0_,hbi0_,hk_⟩
   ·rw [if_neg c53] at H
    have c53b0 : (t9 == 2) = false:=beq_eq_false_iff_ne.mpr c53
    have c53b1 : (t9 != 2) = true:=bne_iff_ne.mpr c53
    simp only [Option.some.injEq,Prod.mk.injEq] at H
    obtain ⟨rfl,rfl⟩:=H
    go_enter Try.func61,Try.ntmps61
    go_wp2_with (first | ((with_reducible refine gate_dst (N:=2) rfl ?_);refine box_event ?hg (N:=2) ?hd (cs:=#[.slice none 0 0]) (t:=25) ?hr ?_;(case hd=>rfl);(case hg=>rfl);(case hr=>first | (go_simp;done) | (go_simp;rfl));intro gb1 hg w65 hbox hb;have n0_:=a0_ (IsS81.below is0_ hb);have n1_:=a0_ (KeepBut.trans (w:=w) hk_ (KeepBut.of_below hb g none) (.inl rfl));have n2_:=a0_ (below_step hbi0_ hb);have n3_:=a0_ (hbox);have n4_:=a0_ ((by rw [hg];exact (keep_size (w:=w) (g:=g) (row:=none) hk_) : w.heap.size ≤ gb1));have n5_:=a0_ ((Nat.le_trans HW0.out (by rw [hg];exact (keep_size (w:=w) (g:=g) (row:=none) hk_) : w.heap.size ≤ gb1) : w0.heap.size ≤ gb1));have n6_:=a0_ ((by rw [hg];exact Nat.ne_of_lt (IsS81.lt (is0_ : IsS81 w0 _ g s0_0 s0_1)) : g ≠ gb1));have n7_:=a0_ ((by rw [hg];exact Nat.ne_of_gt (IsS81.lt (is0_ : IsS81 w0 _ g s0_0 s0_1)) : gb1 ≠ g));clear HI0 HK HB;have HI0:=n0_;have HK:=n1_;have HB:=n2_;have BK1:=n3_;have GW1:=n4_;have GE1:=n5_;have NB0_1:=n6_;have NB1_0:=n7_;clear n0_ n1_ n2_ n3_ n4_ n5_ n6_ n7_;clear hb hbox hg) | ((with_reducible refine gate_callee (f:=83) rfl ?_);refine goesL_ (some 6) rfl rfl Try.func83 (by kernel_rfl) rfl #[.pointer (some ⟨g,0,none⟩)] rfl lm_ ?_;(with_reducible refine (spec_goodTree.calls k g s0_0 s0_1 t2 t5 w0 _ ?side1 ?side2 A2.out).mono ?_);(case side1=>exact is0_);(case side2=>exact hbi0_);rintro e w66 ⟨v3,rfl,ho0,hi,hb,hk⟩;refine ⟨_,rfl,?_⟩;replace BK1:=kk_ hk BK1 NB1_0;have HO4:=a0_ (Kd.R_lower ho0 (keep_size (w:=w) (g:=g) (row:=none) hk_));replace HK:=a0_ (KeepBut.trans (w:=w) hk_ hk (.inl rfl));replace HI0:=a0_ (hi);replace HB:=a0_ (hb);(try clear hb);(try clear ho0)) | ((with_reducible refine gate_dst (N:=3) rfl ?_);refine box_event ?hg (N:=3) ?hd (cs:=#[.slice none 0 0]) (t:=25) ?hr ?_;(case hd=>rfl);(case hg=>rfl);(case hr=>first | (go_simp;done) | (go_simp;rfl));intro gb6 hg w67 hbox hb;have n0_:=rb_ HO4 hb;have n1_:=a0_ (IsS81.below is0_ hb);have n2_:=kb_ BK1 hb;have n3_:=a0_ (KeepBut.trans (w:=w) hk_ (KeepBut.of_below hb g none) (.inl rfl));have n4_:=a0_ (below_step hbi0_ hb);have n5_:=a0_ (hbox);have n6_:=a0_ ((by rw [hg];exact (keep_size (w:=w) (g:=g) (row:=none) hk_) : w.heap.size ≤ gb6));have n7_:=a0_ ((Nat.le_trans HW0.out (by rw [hg];exact (keep_size (w:=w) (g:=g) (row:=none) hk_) : w.heap.size ≤ gb6) : w0.heap.size ≤ gb6));have n8_:=a0_ ((by rw [hg];exact Nat.ne_of_lt (blk_lt (bb_ BK1.out)) : gb1 ≠ gb6));have n9_:=a0_ ((by rw [hg];exact Nat.ne_of_gt (blk_lt (bb_ BK1.out)) : gb6 ≠ gb1));have n10_:=a0_ ((by rw [hg];exact Nat.ne_of_lt (IsS81.lt (is0_ : IsS81 w0 _ g s0_0 t5)) : g ≠ gb6));have n11_:=a0_ ((by rw [hg];exact Nat.ne_of_gt (IsS81.lt (is0_ : IsS81 w0 _ g s0_0 t5)) : gb6 ≠ g));clear HO4 HI0;clear BK1 HK HB;have HO4:=n0_;have HI0:=n1_;have BK1:=n2_;have HK:=n3_;have HB:=n4_;have BK6:=n5_;have GW6:=n6_;have GE6:=n7_;have NB1_6:=n8_;have NB6_1:=n9_;have NB0_6:=n10_;have NB6_0:=n11_;clear n0_ n1_ n2_ n3_ n4_ n5_ n6_ n7_ n8_ n9_ n10_ n11_;clear hb hbox hg;obtain ⟨Ao68,co68,eo68⟩:=Kd.R_slice HO4.out;subst eo68;have hnb69:=NB6_1.out;have hnc69:=NB1_6.out;have hnb70:=NB6_0.out;have hnc70:=NB0_6.out;have hcz71_0 : w67.cell? ⟨gb6,0,none⟩ = some (.slice none 0 0):=(blk_cell BK6.out 0).trans rfl;have hfz71_0:=blk_frozen BK6.out 0) | ((with_reducible refine gate_callee (f:=63) rfl ?_);refine goesL_ (some 11) rfl rfl Try.func63 (by kernel_rfl) rfl #[.pointer (some ⟨g,0,none⟩),.int .i64 (t2.length : Int)] rfl lm_ ?_;(with_reducible refine (spec_reader_pick.calls k g s0_0 t5 (t2.length : Int) t7 t8 w0 _ ?side1 ?side2 A3.out).mono ?_);(case side1=>exact is0_);(case side2=>exact hbi0_);rintro e w72 ⟨rfl,hi,hb,hk⟩;refine ⟨_,rfl,?_⟩;replace BK1:=kk_ hk BK1 NB1_0;replace HO4:=a0_ (Kd.R_mono (Kd.R_keep (IsS81.apart (is0_ : IsS81 w0 _ g s0_0 t5) (by (with_reducible repeat (first | apply Kd.R_alloc | apply Kd.R_drewN | apply Kd.R_drew));exact (Kd.R_mono (Kd.R_far (p:=⟨gb6,0,none⟩) (Kd.R_types HO4.out BK6.out (by decide)) (fun _ hk=>hk.2) (.slice Ao68 t2.length co68)) (fun _ h_=>h_.1))) (by decide)) hk (fun _ h=>h.2)) (fun _ h=>h.1));replace BK6:=a0_ (KeepBut.blk hk (g':=gb6) (o:=.cells #[.slice Ao68 t2.length co68] 25 (0,0)) (by (with_reducible repeat (first | refine blk_drewN ?_ _ | refine blk_drew ?_ | refine blk_alloc ?_ _));refine blk_put (cs:=#[.slice none 0 0]) ?_ 0 _ rfl;(with_reducible repeat (first | refine blk_drewN ?_ _ | refine blk_drew ?_ | refine blk_alloc ?_ _));exact BK6.out) NB6_0.out (by simp));replace HK:=a0_ (KeepBut.trans (w:=w) hk_ hk (.inl rfl));replace HI0:=a0_ (hi);replace HB:=a0_ (hb);(try clear hb);(try clear hb2);(try clear hk);(try clear hi)) | ((with_reducible refine gate_callee (f:=63) rfl ?_);refine goesL_ (some 13) rfl rfl Try.func63 (by kernel_rfl) rfl #[.pointer (some ⟨g,0,none⟩),.int .i64 24] rfl lm_ ?_;(with_reducible refine (spec_reader_pick.calls k g s0_0 t8 24 t9 t10 w0 _ ?side1 ?side2 A4.out).mono ?_);(case side1=>exact is0_);(case side2=>exact hbi0_);rintro e w73 ⟨rfl,hi,hb,hk⟩;refine ⟨_,rfl,?_⟩;replace BK1:=kk_ hk BK1 NB1_0;replace HO4:=a0_ (Kd.R_mono (Kd.R_keep (IsS81.apart (is0_ : IsS81 w0 _ g s0_0 t8) (rr_ HO4.out) (by decide)) hk (fun _ h=>h.2)) (fun _ h=>h.1));replace BK6:=kk_ hk BK6 NB6_0;replace HK:=a0_ (KeepBut.trans (w:=w) hk_ hk (.inl rfl));replace HI0:=a0_ (hi);replace HB:=a0_ (hb);(try clear hb);have hcz74_0 : w73.cell? ⟨gb6,0,none⟩ = some (.slice Ao68 t2.length co68):=(blk_cell BK6.out 0).trans rfl;have hfz74_0:=blk_frozen BK6.out 0;have hnb75:=NB1_0.out;have hnc75:=NB0_1.out;have hcz76_0 : w73.cell? ⟨gb1,0,none⟩ = some (.slice none 0 0):=(blk_cell BK1.out 0).trans rfl;have hfz76_0:=blk_frozen BK1.out 0))
    refine bodyPost_ret (results_cell_row rfl _ _ gb1 25 #[.slice Ao68 t2.length co68] (0,0) _ rfl (by (with_reducible repeat (first | refine blk_drewN ?_ _ | refine blk_drew ?_ | refine blk_alloc ?_ _));refine blk_put (cs:=#[.slice none 0 0]) ?_ 0 _ rfl;(with_reducible repeat (first | refine blk_drewN ?_ _ | refine blk_drew ?_ | refine blk_alloc ?_ _));exact BK1.out) Try.underlying25 rfl (by kernel_rfl)) rfl ?_
    exact ⟨_,by first | rfl | (simp [errW_none,errW_some] <;> rfl) | (simp [*,errW_none,errW_some] <;> rfl),by (with_reducible repeat (first | apply Kd.R_alloc | apply Kd.R_drewN | apply Kd.R_drew));exact Kd.R_mono (Kd.R_far (p:=⟨gb1,0,none⟩) (Kd.R_types HO4.out BK1.out (by decide)) (fun _ hk=>hk.2) (.slice Ao68 t2.length co68)) (fun _ hk=>trivial),is0_,hbi0_,hk_⟩
theorem spec_someTree_ev (b : List Int) (p : Int) (hb : byL b) (h0 : 0 ≤ p) (hp : p ≤ 1099511626000) : ∃ t q,Ev (fun k=>spec_someTree.f k b p) (t,q) ∧ p ≤ q ∧ q ≤ p + 23 ∧ t.length ≤ 8 ∧ ∀ x ∈ t,x.f0.size ≤ 7:=by
 obtain ⟨t,q,ht,h1,h2,h3,h4,hg⟩:=spec_goodTree_ev b p hb h0 (by omega)
 obtain ⟨x,hx,x0,x1,_⟩:=spec_pick_ev b q (t.length : Int) hb (by omega) (by omega)
 have hxi:=x1 (by omega)
 obtain ⟨y,hy,y0,y1,_⟩:=spec_pick_ev b (q + 1) 24 hb (by omega) (by omega)
 by_cases c0 : y = 0
 ·obtain ⟨s,hs,hsm⟩:=spec_of_ev b (q + 1 + 1) [(⟨#[]⟩ : ByteArray),(⟨#[97,110,121]⟩ : ByteArray),(⟨#[65]⟩ : ByteArray),(⟨#[116,111,111,108,111,110,103]⟩ : ByteArray)] hb (by omega) (by omega) (by simp)
  have hsz : s.size ≤ 7:=by
   simp only [List.mem_cons,List.not_mem_nil,or_false] at hsm
   rcases hsm with rfl | rfl | rfl | rfl <;> decide
  refine ⟨_,_,Ev.bind ht (Ev.bind hx (Ev.bind hy (Ev.pos c0 (Ev.bind hs (Ev.pos x0 (Ev.pos hxi (Ev.const rfl))))))),by omega,by omega,by rw [List.length_set];exact h4,fun z hz=>?_⟩
  rcases set_mem hz with rfl | hz
  ·exact hsz
  ·exact hg.1 z hz
 by_cases c1 : y = 1
 ·obtain ⟨s,hs,hsm⟩:=spec_one_ev b (q + 1 + 1) [x,(-1),8,(-2)] hb (by omega) (by omega) (by simp)
  refine ⟨_,_,Ev.bind ht (Ev.bind hx (Ev.bind hy (Ev.neg c0 (Ev.pos c1 (Ev.bind hs (Ev.pos x0 (Ev.pos hxi (Ev.const rfl)))))))),by omega,by omega,by rw [List.length_set];exact h4,fun z hz=>?_⟩
  rcases set_mem hz with rfl | hz
  ·refine hg.1 (rd_T85 t x) ?_
   unfold rd_T85
   rw [List.getD_eq_getElem?_getD,List.getElem?_eq_getElem (show x.toNat < t.length by omega)]
   exact List.getElem_mem _
  ·exact hg.1 z hz
 by_cases c2 : y = 2
 ·exact ⟨_,_,Ev.bind ht (Ev.bind hx (Ev.bind hy (Ev.neg c0 (Ev.neg c1 (Ev.pos c2 (Ev.const rfl)))))),by omega,by omega,by simp,fun z hz=>absurd hz (by simp)⟩
 ·exact ⟨_,_,Ev.bind ht (Ev.bind hx (Ev.bind hy (Ev.neg c0 (Ev.neg c1 (Ev.neg c2 (Ev.const rfl)))))),by omega,by omega,h4,hg.1⟩
end Go.Proofs.Ytfphcdbnnienhaa.P
namespace Go.Proofs.Ytfphcdbnnienhaa.P
open Go.RowKit Go.Proofs.YtfphcdbnnienhaaW.PrintWords Go.Proofs.YtfphcdbnnienhaaW.PrintLast Go.Proofs.YtfphcdbnnienhaaW.PrintMore
attribute [local go_sem] max2_int min2_int max_two min_two max_three min_three max_four min_four
set_option linter.unusedVariables false
set_option linter.unusedSimpArgs false
mutual
def spec_goodGroup.j0 : Nat → Int → Bool → List Int → Int → List (S85) → Option ((List (S47)) × Int)
 | 0,_,_,_,_,_=>none
 | k + 1,x2,x24,x1000,x1001,x2000=>if x24 = true then ((spec_reader_pick.f k x1000 x1001 (x2000.length : Int)).bind fun bt8=>((spec_reader_one.f k x1000 bt8.2 (([1,2,3,0,99] : List Int))).bind fun bt13=>(some ((([(⟨x2,false,bt8.1,bt13.1⟩ : S47)] : List (S47))),bt13.2)))) else ((spec_reader_one.f k x1000 x1001 (([1,2,0,7] : List Int))).bind fun bt21=>((spec_reader_one.f k x1000 bt21.2 (([2,3,1] : List Int))).bind fun bt29=>(spec_goodGroup.l0 k x2 (([(⟨x2,true,0,bt21.1⟩ : S47)] : List (S47))) bt29.1 x1000 bt29.2 x2000)))
def spec_goodGroup.l0 : Nat → Int → List (S47) → Int → List Int → Int → List (S85) → Option ((List (S47)) × Int)
 | 0,_,_,_,_,_,_=>none
 | k + 1,x2,x7,x8,x1000,x1001,x2000=>if x8 > 0 then ((spec_goodGroup.f k x1000 x1001 x2000 (wrap64 (x2 + 1))).bind fun bt31=>(if x7.length + bt31.1.length < 4398046511104 then (spec_goodGroup.l0 k x2 (x7 ++ bt31.1) (wrap64 (x8 - 1)) x1000 bt31.2 x2000) else (none))) else (some (x7,x1001))
def spec_goodGroup.f : Nat → List Int → Int → List (S85) → Int → Option ((List (S47)) × Int)
 | 0,_,_,_,_=>none
 | k + 1,s0_0,s0_1,l1_0,a2=>if a2 ≥ 3 then (spec_goodGroup.j0 k a2 true s0_0 s0_1 l1_0) else (if a2 > 0 then ((spec_reader_pick.f k s0_0 s0_1 5).bind fun bt2=>(if bt2.1 > 1 then (spec_goodGroup.j0 k a2 true s0_0 bt2.2 l1_0) else ((spec_reader_pick.f k s0_0 bt2.2 8).bind fun bt4=>(spec_goodGroup.j0 k a2 (bt4.1 == 0) s0_0 bt4.2 l1_0)))) else ((spec_reader_pick.f k s0_0 s0_1 8).bind fun bt6=>(spec_goodGroup.j0 k a2 (bt6.1 == 0) s0_0 bt6.2 l1_0)))
end
theorem spec_goodGroup.mono_l : ∀ k,(∀ y0 y1 y2 y3,LeO (spec_goodGroup.f k y0 y1 y2 y3) (spec_goodGroup.f (k + 1) y0 y1 y2 y3)) ∧ (∀ y0 y1 y2 y3 y4,LeO (spec_goodGroup.j0 k y0 y1 y2 y3 y4) (spec_goodGroup.j0 (k + 1) y0 y1 y2 y3 y4)) ∧ (∀ y0 y1 y2 y3 y4 y5,LeO (spec_goodGroup.l0 k y0 y1 y2 y3 y4 y5) (spec_goodGroup.l0 (k + 1) y0 y1 y2 y3 y4 y5))
 | 0=>⟨fun _ _ _ _ r h=>by simp [spec_goodGroup.f] at h,fun _ _ _ _ _ r h=>by simp [spec_goodGroup.j0] at h,fun _ _ _ _ _ _ r h=>by simp [spec_goodGroup.l0] at h⟩
 | k + 1=>by
  obtain ⟨ih0,ih1,ih2⟩:=spec_goodGroup.mono_l k
  refine ⟨?_,?_,?_⟩
  ·intro y0 y1 y2 y3
   unfold spec_goodGroup.f
   repeat' first
   | (with_reducible exact ih0 _ _ _ _)
   | (with_reducible exact ih1 _ _ _ _ _)
   | (with_reducible exact ih2 _ _ _ _ _ _)
   | (with_reducible exact spec_reader_one.mono _ _ _ _)
   | (with_reducible exact spec_reader_pick.mono _ _ _ _)
   | (with_reducible exact LeO.refl _)
   | (with_reducible exact LeO.none _)
   | (with_reducible refine LeO.ite ?_ ?_)
   | (with_reducible refine LeO.bind ?_ (fun _=>?_))
   | exact ih0 _ _ _ _
   | exact ih1 _ _ _ _ _
   | exact ih2 _ _ _ _ _ _
   | exact spec_reader_one.mono _ _ _ _
   | exact spec_reader_pick.mono _ _ _ _
   | exact LeO.none _
   | refine LeO.ite ?_ ?_
   | refine LeO.bind ?_ (fun _=>?_)
  ·intro y0 y1 y2 y3 y4
   unfold spec_goodGroup.j0
   repeat' first
   | (with_reducible exact ih0 _ _ _ _)
   | (with_reducible exact ih1 _ _ _ _ _)
   | (with_reducible exact ih2 _ _ _ _ _ _)
   | (with_reducible exact spec_reader_one.mono _ _ _ _)
   | (with_reducible exact spec_reader_pick.mono _ _ _ _)
   | (with_reducible exact LeO.refl _)
   | (with_reducible exact LeO.none _)
   | (with_reducible refine LeO.ite ?_ ?_)
   | (with_reducible refine LeO.bind ?_ (fun _=>?_))
   | exact ih0 _ _ _ _
   | exact ih1 _ _ _ _ _
   | exact ih2 _ _ _ _ _ _
   | exact spec_reader_one.mono _ _ _ _
   | exact spec_reader_pick.mono _ _ _ _
   | exact LeO.none _
   | refine LeO.ite ?_ ?_
   | refine LeO.bind ?_ (fun _=>?_)
  ·intro y0 y1 y2 y3 y4 y5
   unfold spec_goodGroup.l0
   repeat' first
   | (with_reducible exact ih0 _ _ _ _)
   | (with_reducible exact ih1 _ _ _ _ _)
   | (with_reducible exact ih2 _ _ _ _ _ _)
   | (with_reducible exact spec_reader_one.mono _ _ _ _)
   | (with_reducible exact spec_reader_pick.mono _ _ _ _)
   | (with_reducible exact LeO.refl _)
   | (with_reducible exact LeO.none _)
   | (with_reducible refine LeO.ite ?_ ?_)
   | (with_reducible refine LeO.bind ?_ (fun _=>?_))
   | exact ih0 _ _ _ _
   | exact ih1 _ _ _ _ _
   | exact ih2 _ _ _ _ _ _
   | exact spec_reader_one.mono _ _ _ _
   | exact spec_reader_pick.mono _ _ _ _
   | exact LeO.none _
   | refine LeO.ite ?_ ?_
   | refine LeO.bind ?_ (fun _=>?_)
theorem spec_goodGroup.mono : ∀ a0 a1 a2 a3 k,LeO (spec_goodGroup.f k a0 a1 a2 a3) (spec_goodGroup.f (k + 1) a0 a1 a2 a3):=by
 intro a0 a1 a2 a3 k
 obtain ⟨ih0,ih1,ih2⟩:=spec_goodGroup.mono_l k
 exact ih0 a0 a1 a2 a3
set_option maxHeartbeats 8000000 in
set_option maxRecDepth 100000 in
theorem spec_goodGroup.calls (k : Nat) : ∀ (g : Nat) (s0_0 : List Int) (s0_1 : Int) (A1_0 : Option Addr) (c1_0 : Nat) (l1_0 : List (S85)) (a2 : Int) (r1 : List (S47)) (r2 : Int) (w0 w : World) (hI : IsS81 w0 w g s0_0 s0_1) (hB : Below w0.heap.size w0 w) (hr1_0 : ∀ W_,KeepBut w W_ g none → Kd.C k85 W_ A1_0 l1_0.length l1_0) (hc1_0 : l1_0.length ≤ c1_0) (h : spec_goodGroup.f k s0_0 s0_1 l1_0 a2 = some (r1,r2)),
  Calls Try.prog 62 #[.pointer (some ⟨g,0,none⟩),.agg #[.slice A1_0 l1_0.length c1_0],.int .i64 a2] w fun e w'=>∃ v0_ : Value,e = .returned (v0_) ∧ Kd.R k47 47 w' w.heap.size (fun _=>True) v0_ r1 ∧ IsS81 w0 w' g s0_0 r2 ∧ Below w0.heap.size w0 w' ∧ KeepBut w w' g none:=by
 induction k using Nat.strongRecOn with
 | _ k ih =>
 intro g s0_0 s0_1 A1_0 c1_0 l1_0 a2 r1 r2 w0 w hI hB hr1_0 hc1_0 h
 cases k with
 | zero=>exact absurd h (by simp [spec_goodGroup.f])
 | succ k =>
 simp only [spec_goodGroup.f] at h
 have hu25:=Try.underlying25
 have hu47:=Try.underlying47
 have HR1_0:=a0_ hr1_0
 have HC1_0:=a0_ hc1_0
 clear hr1_0 hc1_0
 have HI0:=a0_ hI
 have HK:=a0_ (KeepBut.refl w g none)
 have HL:=a0_ hB.size
 clear hI
 have HW0:=a0_ hB.size
 have HB:=a0_ hB
 clear hB
 have H : (if a2 ≥ 3 then (spec_goodGroup.j0 k a2 true s0_0 s0_1 l1_0) else (if a2 > 0 then ((spec_reader_pick.f k s0_0 s0_1 5).bind fun bt2=>(if bt2.1 > 1 then (spec_goodGroup.j0 k a2 true s0_0 bt2.2 l1_0) else ((spec_reader_pick.f k s0_0 bt2.2 8).bind fun bt4=>(spec_goodGroup.j0 k a2 (bt4.1 == 0) s0_0 bt4.2 l1_0)))) else ((spec_reader_pick.f k s0_0 s0_1 8).bind fun bt6=>(spec_goodGroup.j0 k a2 (bt6.1 == 0) s0_0 bt6.2 l1_0)))) = some (r1,r2):=h
 clear h
 have HC4:=a0_ H
 clear H
 go_enter Try.func62,Try.ntmps62
 go_upto_region 1 with (first | ((with_reducible refine gate_dst (N:=4) rfl ?_);refine box_event ?hg (N:=4) ?hd (cs:=#[.slice A1_0 l1_0.length c1_0]) (t:=25) ?hr ?_;(case hd=>rfl);(case hg=>rfl);(case hr=>first | (go_simp;done) | (go_simp;rfl));intro gb1 hg w5 hbox hb;have n0_:=a0_ (IsS81.below is0_ hb);have n1_:=a0_ (KeepBut.trans (w:=w) hk_ (KeepBut.of_below hb g none) (.inl rfl));have n2_:=a0_ (below_step hbi0_ hb);have n3_:=a0_ (hbox);have n4_:=a0_ ((by rw [hg];exact (keep_size (w:=w) (g:=g) (row:=none) hk_) : w.heap.size ≤ gb1));have n5_:=a0_ ((Nat.le_trans HW0.out (by rw [hg];exact (keep_size (w:=w) (g:=g) (row:=none) hk_) : w.heap.size ≤ gb1) : w0.heap.size ≤ gb1));have n6_:=a0_ ((by rw [hg];exact Nat.ne_of_lt (IsS81.lt (is0_ : IsS81 w0 _ g s0_0 s0_1)) : g ≠ gb1));have n7_:=a0_ ((by rw [hg];exact Nat.ne_of_gt (IsS81.lt (is0_ : IsS81 w0 _ g s0_0 s0_1)) : gb1 ≠ g));clear HI0 HK HB;have HI0:=n0_;have HK:=n1_;have HB:=n2_;have BK1:=n3_;have GW1:=n4_;have GE1:=n5_;have NB0_1:=n6_;have NB1_0:=n7_;clear n0_ n1_ n2_ n3_ n4_ n5_ n6_ n7_;clear hb hbox hg))
 (try simp only [Act.put,s1_,s2_,s3_])
 go_cut [24] (fun v24 wc=>∃ (kq : Nat) (x24_3 : Bool) (x1001_3 : Int),v24 = .bool x24_3 ∧ Aside0 (spec_goodGroup.j0 kq a2 x24_3 s0_0 x1001_3 l1_0 = some (r1,r2)) ∧ Aside0 (kq ≤ k) ∧ Aside0 (wc.heap[gb1]? = some (.cells #[(.slice A1_0 l1_0.length c1_0)] 25 (0,0))) ∧ Aside0 (IsS81 w0 wc g s0_0 x1001_3) ∧ Aside0 (KeepBut w wc g none) ∧ Aside0 (Below w0.heap.size w0 wc))
 case first =>
  have H:=HC4.out
  clear HC4
  by_cases c6 : a2 ≥ 3
  ·rw [if_pos c6] at H
   have c6b0 : decide (3 ≤ a2) = true:=decide_eq_true c6
   clear c6
   (first | rw [c6b0] | (simp only [i64_w,i32_w];rw [c6b0]) | skip)
   have H':=a0_ H
   clear H
   go_wp2
   go_meet
   case rel=>exact ⟨_,(true),(s0_1),(by first | rfl | (simp;done) | (simp [*];done)),H',⟨by first | omega | exact Nat.le_refl _⟩,⟨by (with_reducible repeat (first | refine blk_drewN ?_ _ | refine blk_drew ?_ | refine blk_alloc ?_ _));exact BK1.out⟩,⟨is0_⟩,⟨hk_⟩,⟨hbi0_⟩⟩
  ·rw [if_neg c6] at H
   have c6b0 : decide (3 ≤ a2) = false:=decide_eq_false c6
   clear c6
   (first | rw [c6b0] | (simp only [i64_w,i32_w];rw [c6b0]) | skip)
   by_cases c7 : a2 > 0
   ·rw [if_pos c7] at H
    have c7b0 : decide (0 < a2) = true:=decide_eq_true c7
    clear c7
    replace H:=Option.bind_eq_some_iff.mp H
    obtain ⟨⟨t2,t3⟩,A80,H⟩:=H
    try dsimp only at H
    have A8:=a0_ A80
    clear A80
    by_cases c9 : t2 > 1
    ·rw [if_pos c9] at H
     have c9b0 : decide (1 < t2) = true:=decide_eq_true c9
     clear c9
     have H':=a0_ H
     clear H
     go_wp2_with (first | (go_at_call 63;(with_reducible refine (spec_reader_pick.calls k g s0_0 s0_1 5 t2 t3 w0 _ ?side1 ?side2 A8.out).mono ?_);(case side1=>exact is0_);(case side2=>exact hbi0_);rintro e w10 ⟨rfl,hi,hb,hk⟩;replace BK1:=kk_ hk BK1 NB1_0;replace HK:=a0_ (KeepBut.trans (w:=w) hk_ hk (.inl rfl));replace HI0:=a0_ (hi);replace HB:=a0_ (hb);(try clear hb);(try clear hb2);(try clear hk);(try clear hi)))
     go_meet
     case rel=>exact ⟨_,(true),(t3),(by first | rfl | (simp;done) | (simp [*];done)),H',⟨by first | omega | exact Nat.le_refl _⟩,⟨by (with_reducible repeat (first | refine blk_drewN ?_ _ | refine blk_drew ?_ | refine blk_alloc ?_ _));exact BK1.out⟩,⟨is0_⟩,⟨hk_⟩,⟨hbi0_⟩⟩
    ·rw [if_neg c9] at H
     have c9b0 : decide (1 < t2) = false:=decide_eq_false c9
     clear c9
     replace H:=Option.bind_eq_some_iff.mp H
     obtain ⟨⟨t4,t5⟩,A110,H⟩:=H
     try dsimp only at H
     have A11:=a0_ A110
     clear A110
     have H':=a0_ H
     clear H
     go_wp2_with (first | (go_at_call 63;(with_reducible refine (spec_reader_pick.calls k g s0_0 s0_1 5 t2 t3 w0 _ ?side1 ?side2 A8.out).mono ?_);(case side1=>exact is0_);(case side2=>exact hbi0_);rintro e w12 ⟨rfl,hi,hb,hk⟩;replace BK1:=kk_ hk BK1 NB1_0;replace HK:=a0_ (KeepBut.trans (w:=w) hk_ hk (.inl rfl));replace HI0:=a0_ (hi);replace HB:=a0_ (hb);(try clear hb);(try clear hb2);(try clear hk);(try clear hi)) | (go_at_call 63;(with_reducible refine (spec_reader_pick.calls k g s0_0 t3 8 t4 t5 w0 _ ?side1 ?side2 A11.out).mono ?_);(case side1=>exact is0_);(case side2=>exact hbi0_);rintro e w13 ⟨rfl,hi,hb,hk⟩;replace BK1:=kk_ hk BK1 NB1_0;replace HK:=a0_ (KeepBut.trans (w:=w) hk_ hk (.inl rfl));replace HI0:=a0_ (hi);replace HB:=a0_ (hb);(try clear hb);(try clear hb2);(try clear hk);(try clear hi)))
     go_meet
     case rel=>exact ⟨_,((t4 == 0)),(t5),(by first | rfl | (simp;done) | (simp [*];done)),H',⟨by first | omega | exact Nat.le_refl _⟩,⟨by (with_reducible repeat (first | refine blk_drewN ?_ _ | refine blk_drew ?_ | refine blk_alloc ?_ _));exact BK1.out⟩,⟨is0_⟩,⟨hk_⟩,⟨hbi0_⟩⟩
   ·rw [if_neg c7] at H
    have c7b0 : decide (0 < a2) = false:=decide_eq_false c7
    clear c7
    replace H:=Option.bind_eq_some_iff.mp H
    obtain ⟨⟨t6,t7⟩,A140,H⟩:=H
    try dsimp only at H
    have A14:=a0_ A140
    clear A140
    have H':=a0_ H
    clear H
    go_wp2_with (first | (go_at_call 63;(with_reducible refine (spec_reader_pick.calls k g s0_0 s0_1 8 t6 t7 w0 _ ?side1 ?side2 A14.out).mono ?_);(case side1=>exact is0_);(case side2=>exact hbi0_);rintro e w15 ⟨rfl,hi,hb,hk⟩;replace BK1:=kk_ hk BK1 NB1_0;replace HK:=a0_ (KeepBut.trans (w:=w) hk_ hk (.inl rfl));replace HI0:=a0_ (hi);replace HB:=a0_ (hb);(try clear hb);(try clear hb2);(try clear hk);(try clear hi)))
    go_meet
    case rel=>exact ⟨_,((t6 == 0)),(t7),(by first | rfl | (simp;done) | (simp [*];done)),H',⟨by first | omega | exact Nat.le_refl _⟩,⟨by (with_reducible repeat (first | refine blk_drewN ?_ _ | refine blk_drew ?_ | refine blk_alloc ?_ _));exact BK1.out⟩,⟨is0_⟩,⟨hk_⟩,⟨hbi0_⟩⟩
 case rest =>
  clear HC4
  try clear c1
  try clear p2
  try clear c6
  try clear c6b0
  try clear c7
  try clear c7b0
  try clear c9
  try clear c9b0
  obtain ⟨kq,x24_3,x1001_3,rfl,HA,HJ3,BK1,HI0,HK,HB⟩:=hcut
  cases kq with
  | zero=>exact absurd HA.out (by simp [spec_goodGroup.j0])
  | succ kj3 =>
   have H:=HA.out
   clear HA
   simp only [spec_goodGroup.j0] at H
   by_cases c16 : x24_3 = true
   ·subst c16
    have H1 : ((spec_reader_pick.f kj3 s0_0 x1001_3 (l1_0.length : Int)).bind fun bt8=>((spec_reader_one.f kj3 s0_0 bt8.2 (([1,2,3,0,99] : List Int))).bind fun bt13=>(some ((([(⟨a2,false,bt8.1,bt13.1⟩ : S47)] : List (S47))),bt13.2)))) = some (r1,r2):=by rw [if_pos rfl] at H;exact H
    clear H
    have H:=H1
    clear H1
    replace H:=Option.bind_eq_some_iff.mp H
    obtain ⟨⟨t8,t9⟩,A170,H⟩:=H
    try dsimp only at H
    have A17:=a0_ A170
    clear A170
    obtain ⟨y10,hy10⟩ : ∃ y_ : List Int,y_ = (([1,2,3,0,99] : List Int)):=⟨_,rfl⟩
    replace H : ((spec_reader_one.f kj3 s0_0 t9 y10).bind fun bt13=>(some ((([(⟨a2,false,t8,bt13.1⟩ : S47)] : List (S47))),bt13.2))) = some (r1,r2):=by first | (rw [hy10];with_reducible exact H) | (have H2_:=(Option.bind_some _ _).symm.trans H;rw [hy10];with_reducible exact H2_) | (have H2_:=(Option.bind_some _ _).symm.trans H;with_reducible exact H2_) | with_reducible exact H | (rw [hy10];exact H) | exact H
    have Ny10:=a0_ hy10
    clear hy10
    replace H:=Option.bind_eq_some_iff.mp H
    obtain ⟨⟨t13,t14⟩,A180,H⟩:=H
    try dsimp only at H
    have A18:=a0_ A180
    clear A180
    obtain ⟨y15,hy15⟩ : ∃ y_ : List (S47),y_ = (([(⟨a2,false,t8,t13⟩ : S47)] : List (S47))):=⟨_,rfl⟩
    replace H : (some (y15,t14)) = some (r1,r2):=by first | (rw [hy15];with_reducible exact H) | (have H2_:=(Option.bind_some _ _).symm.trans H;rw [hy15];with_reducible exact H2_) | (have H2_:=(Option.bind_some _ _).symm.trans H;with_reducible exact H2_) | with_reducible exact H | (rw [hy15];exact H) | exact H
    have Ny15:=a0_ hy15
    clear hy15
    simp only [Option.some.injEq,Prod.mk.injEq] at H
    obtain ⟨rfl,rfl⟩:=H
    have hnb19:=NB1_0.out
    have hnc19:=NB0_1.out
    have hcz20_0 : wc.cell? ⟨gb1,0,none⟩ = some (.slice A1_0 l1_0.length c1_0):=(blk_cell BK1.out 0).trans rfl
    have hfz20_0:=blk_frozen BK1.out 0
    go_wp2_with (first | ((with_reducible refine gate_callee (f:=63) rfl ?_);refine goesL_ (some 30) rfl rfl Try.func63 (by kernel_rfl) rfl #[.pointer (some ⟨g,0,none⟩),.int .i64 (l1_0.length : Int)] rfl lm_ ?_;(with_reducible refine (spec_reader_pick.calls kj3 g s0_0 x1001_3 (l1_0.length : Int) t8 t9 w0 _ ?side1 ?side2 A17.out).mono ?_);(case side1=>exact is0_);(case side2=>exact hbi0_);rintro e w21 ⟨rfl,hi,hb,hk⟩;refine ⟨_,rfl,?_⟩;replace BK1:=kk_ hk BK1 NB1_0;replace HK:=a0_ (KeepBut.trans (w:=w) hk_ hk (.inl rfl));replace HI0:=a0_ (hi);replace HB:=a0_ (hb);(try clear hb);(try clear hb2);(try clear hk);(try clear hi)) | ((with_reducible refine gate_dst (N:=32) rfl ?_);refine Kd.R_lit (Kd.int .i64) _ 3 ?hg (N:=32) ?hd (xs:=([1,2,3,0,99] : List Int)) (inner:=[.int .i64 1,.int .i64 2,.int .i64 3,.int .i64 0,.int .i64 99]) (ok:=fun _=>True) (okp:=fun _=>True) ?hr ?hp (fun _ hk=>hk) trivial (Below.refl _ _) (Nat.le_refl _) (by simp) ?_;(case hd=>rfl);(case hg=>rfl);(case hr=>first | (go_simp;done) | (go_simp;rfl));(case hp=>exact (Reps.one (show Kd.M (Kd.int .i64) _ _ _ 1 [.int .i64 1] from rfl) (Reps.one (show Kd.M (Kd.int .i64) _ _ _ 2 [.int .i64 2] from rfl) (Reps.one (show Kd.M (Kd.int .i64) _ _ _ 3 [.int .i64 3] from rfl) (Reps.one (show Kd.M (Kd.int .i64) _ _ _ 0 [.int .i64 0] from rfl) (Reps.one (show Kd.M (Kd.int .i64) _ _ _ 99 [.int .i64 99] from rfl) (Reps.none _ _)))))));intro v11 w22 ho23 hb hg_ hnew_;clear hg_ hnew_;(first | rw [← Ny10.out] at ho23 | (simp only [Int.reduceToNat] at ho23;rw [← Ny10.out] at ho23));have n0_:=a0_ (Kd.R_lower ho23 (keep_size (w:=w) (g:=g) (row:=none) hk_));have n1_:=kb_ BK1 hb;have n2_:=a0_ (IsS81.below is0_ hb);have n3_:=a0_ (KeepBut.trans (w:=w) hk_ (KeepBut.of_below hb g none) (.inl rfl));have n4_:=a0_ (below_step hbi0_ hb);clear BK1 HI0;clear HK HB;have HO12:=n0_;have BK1:=n1_;have HI0:=n2_;have HK:=n3_;have HB:=n4_;clear n0_ n1_ n2_ n3_ n4_;clear hb ho23;obtain ⟨Ao24,co24,eo24⟩:=Kd.R_slice HO12.out;subst eo24) | ((with_reducible refine gate_callee (f:=64) rfl ?_);refine goesL_ (some 33) rfl rfl Try.func64 (by kernel_rfl) rfl #[.pointer (some ⟨g,0,none⟩),.slice Ao24 y10.length co24] rfl lm_ ?_;(with_reducible refine (spec_reader_one.calls kj3 g s0_0 t9 _ _ y10 t13 t14 w0 _ ?side1 ?side2 ?side3 ?side4 ?side5 A18.out).mono ?_);(case side1=>exact is0_);(case side2=>exact hbi0_);(case side3=>exact cc_ (Kd.R_reads' HO12.out).2.2);(case side4=>exact (Kd.R_reads' HO12.out).2.1);(case side5=>exact far_slice (IsS81.own_ne HI0.out HO12.out (by decide)));rintro e w25 ⟨rfl,hi,hb,hk⟩;refine ⟨_,rfl,?_⟩;replace BK1:=kk_ hk BK1 NB1_0;replace HO12:=a0_ (Kd.R_mono (Kd.R_keep (IsS81.apart (is0_ : IsS81 w0 _ g s0_0 t9) (rr_ HO12.out) (by decide)) hk (fun _ h=>h.2)) (fun _ h=>h.1));replace HK:=a0_ (KeepBut.trans (w:=w) hk_ hk (.inl rfl));replace HI0:=a0_ (hi);replace HB:=a0_ (hb);(try clear hb);(try clear hb2);(try clear hk);(try clear hi)) | ((with_reducible refine gate_dst (N:=35) rfl ?_);refine Kd.R_lit k47 _ 47 ?hg (N:=35) ?hd (xs:=([(⟨a2,false,t8,t13⟩ : S47)] : List (S47))) (inner:=[.int .i64 a2,.bool false,.int .i64 t8,.int .i64 t13]) (ok:=fun _=>True) (okp:=fun _=>True) ?hr ?hp (fun _ hk=>hk) trivial (Below.refl _ _) (Nat.le_refl _) (by simp) ?_;(case hd=>rfl);(case hg=>rfl);(case hr=>first | (go_simp;done) | (go_simp;rfl));(case hp=>exact (Reps.c4 (show Kd.M k47 _ _ _ (⟨a2,false,t8,t13⟩ : S47) [.int .i64 a2,.bool false,.int .i64 t8,.int .i64 t13] from (k47_mkM _ _ _ (⟨a2,false,t8,t13⟩ : S47) )) (Reps.none _ _)));intro v16 w26 ho27 hb hg_ hnew_;clear hg_ hnew_;(first | rw [← Ny15.out] at ho27 | (simp only [Int.reduceToNat] at ho27;rw [← Ny15.out] at ho27));have n0_:=rb_ HO12 hb;have n1_:=a0_ (Kd.R_lower ho27 (keep_size (w:=w) (g:=g) (row:=none) hk_));have n2_:=kb_ BK1 hb;have n3_:=a0_ (IsS81.below is0_ hb);have n4_:=a0_ (KeepBut.trans (w:=w) hk_ (KeepBut.of_below hb g none) (.inl rfl));have n5_:=a0_ (below_step hbi0_ hb);clear HO12 BK1;clear HI0 HK HB;have HO12:=n0_;have HO17:=n1_;have BK1:=n2_;have HI0:=n3_;have HK:=n4_;have HB:=n5_;clear n0_ n1_ n2_ n3_ n4_ n5_;clear hb ho27))
    go_ret
    exact ⟨_,by first | rfl | (simp [errW_none,errW_some] <;> rfl) | (simp [*,errW_none,errW_some] <;> rfl),by (with_reducible repeat (first | apply Kd.R_alloc | apply Kd.R_drewN | apply Kd.R_drew));exact HO17.out,is0_,hbi0_,hk_⟩
   ·replace c16:=Bool.eq_false_iff.mpr c16
    subst c16
    have H1 : ((spec_reader_one.f kj3 s0_0 x1001_3 (([1,2,0,7] : List Int))).bind fun bt21=>((spec_reader_one.f kj3 s0_0 bt21.2 (([2,3,1] : List Int))).bind fun bt29=>(spec_goodGroup.l0 kj3 a2 (([(⟨a2,true,0,bt21.1⟩ : S47)] : List (S47))) bt29.1 s0_0 bt29.2 l1_0))) = some (r1,r2):=by rw [if_neg (show ¬ (false = true) by decide)] at H;exact H
    clear H
    have H:=H1
    clear H1
    obtain ⟨y18,hy18⟩ : ∃ y_ : List Int,y_ = (([1,2,0,7] : List Int)):=⟨_,rfl⟩
    replace H : ((spec_reader_one.f kj3 s0_0 x1001_3 y18).bind fun bt21=>((spec_reader_one.f kj3 s0_0 bt21.2 (([2,3,1] : List Int))).bind fun bt29=>(spec_goodGroup.l0 kj3 a2 (([(⟨a2,true,0,bt21.1⟩ : S47)] : List (S47))) bt29.1 s0_0 bt29.2 l1_0))) = some (r1,r2):=by first | (rw [hy18];with_reducible exact H) | (have H2_:=(Option.bind_some _ _).symm.trans H;rw [hy18];with_reducible exact H2_) | (have H2_:=(Option.bind_some _ _).symm.trans H;with_reducible exact H2_) | with_reducible exact H | (rw [hy18];exact H) | exact H
    have Ny18:=a0_ hy18
    clear hy18
    replace H:=Option.bind_eq_some_iff.mp H
    obtain ⟨⟨t21,t22⟩,A280,H⟩:=H
    try dsimp only at H
    have A28:=a0_ A280
    clear A280
    obtain ⟨y23,hy23⟩ : ∃ y_ : List (S47),y_ = (([(⟨a2,true,0,t21⟩ : S47)] : List (S47))):=⟨_,rfl⟩
    replace H : ((spec_reader_one.f kj3 s0_0 t22 (([2,3,1] : List Int))).bind fun bt29=>(spec_goodGroup.l0 kj3 a2 y23 bt29.1 s0_0 bt29.2 l1_0)) = some (r1,r2):=by first | (rw [hy23];with_reducible exact H) | (have H2_:=(Option.bind_some _ _).symm.trans H;rw [hy23];with_reducible exact H2_) | (have H2_:=(Option.bind_some _ _).symm.trans H;with_reducible exact H2_) | with_reducible exact H | (rw [hy23];exact H) | exact H
    have Ny23:=a0_ hy23
    clear hy23
    obtain ⟨y26,hy26⟩ : ∃ y_ : List Int,y_ = (([2,3,1] : List Int)):=⟨_,rfl⟩
    replace H : ((spec_reader_one.f kj3 s0_0 t22 y26).bind fun bt29=>(spec_goodGroup.l0 kj3 a2 y23 bt29.1 s0_0 bt29.2 l1_0)) = some (r1,r2):=by first | (rw [hy26];with_reducible exact H) | (have H2_:=(Option.bind_some _ _).symm.trans H;rw [hy26];with_reducible exact H2_) | (have H2_:=(Option.bind_some _ _).symm.trans H;with_reducible exact H2_) | with_reducible exact H | (rw [hy26];exact H) | exact H
    have Ny26:=a0_ hy26
    clear hy26
    replace H:=Option.bind_eq_some_iff.mp H
    obtain ⟨⟨t29,t30⟩,A290,H⟩:=H
    try dsimp only at H
    have A29:=a0_ A290
    clear A290
    have H':=a0_ H
    clear H
    go_wp2_with (first | ((with_reducible refine gate_dst (N:=38) rfl ?_);refine Kd.R_lit (Kd.int .i64) _ 3 ?hg (N:=38) ?hd (xs:=([1,2,0,7] : List Int)) (inner:=[.int .i64 1,.int .i64 2,.int .i64 0,.int .i64 7]) (ok:=fun _=>True) (okp:=fun _=>True) ?hr ?hp (fun _ hk=>hk) trivial (Below.refl _ _) (Nat.le_refl _) (by simp) ?_;(case hd=>rfl);(case hg=>rfl);(case hr=>first | (go_simp;done) | (go_simp;rfl));(case hp=>exact (Reps.one (show Kd.M (Kd.int .i64) _ _ _ 1 [.int .i64 1] from rfl) (Reps.one (show Kd.M (Kd.int .i64) _ _ _ 2 [.int .i64 2] from rfl) (Reps.one (show Kd.M (Kd.int .i64) _ _ _ 0 [.int .i64 0] from rfl) (Reps.one (show Kd.M (Kd.int .i64) _ _ _ 7 [.int .i64 7] from rfl) (Reps.none _ _))))));intro v19 w30 ho31 hb hg_ hnew_;clear hg_ hnew_;(first | rw [← Ny18.out] at ho31 | (simp only [Int.reduceToNat] at ho31;rw [← Ny18.out] at ho31));have n0_:=a0_ (Kd.R_lower ho31 (keep_size (w:=w) (g:=g) (row:=none) hk_));have n1_:=kb_ BK1 hb;have n2_:=a0_ (IsS81.below is0_ hb);have n3_:=a0_ (KeepBut.trans (w:=w) hk_ (KeepBut.of_below hb g none) (.inl rfl));have n4_:=a0_ (below_step hbi0_ hb);clear BK1 HI0;clear HK HB;have HO20:=n0_;have BK1:=n1_;have HI0:=n2_;have HK:=n3_;have HB:=n4_;clear n0_ n1_ n2_ n3_ n4_;clear hb ho31;obtain ⟨Ao32,co32,eo32⟩:=Kd.R_slice HO20.out;subst eo32) | ((with_reducible refine gate_callee (f:=64) rfl ?_);refine goesL_ (some 39) rfl rfl Try.func64 (by kernel_rfl) rfl #[.pointer (some ⟨g,0,none⟩),.slice Ao32 y18.length co32] rfl lm_ ?_;(with_reducible refine (spec_reader_one.calls kj3 g s0_0 x1001_3 _ _ y18 t21 t22 w0 _ ?side1 ?side2 ?side3 ?side4 ?side5 A28.out).mono ?_);(case side1=>exact is0_);(case side2=>exact hbi0_);(case side3=>exact cc_ (Kd.R_reads' HO20.out).2.2);(case side4=>exact (Kd.R_reads' HO20.out).2.1);(case side5=>exact far_slice (IsS81.own_ne HI0.out HO20.out (by decide)));rintro e w33 ⟨rfl,hi,hb,hk⟩;refine ⟨_,rfl,?_⟩;replace BK1:=kk_ hk BK1 NB1_0;replace HO20:=a0_ (Kd.R_mono (Kd.R_keep (IsS81.apart (is0_ : IsS81 w0 _ g s0_0 x1001_3) (rr_ HO20.out) (by decide)) hk (fun _ h=>h.2)) (fun _ h=>h.1));replace HK:=a0_ (KeepBut.trans (w:=w) hk_ hk (.inl rfl));replace HI0:=a0_ (hi);replace HB:=a0_ (hb);(try clear hb);(try clear hb2);(try clear hk);(try clear hi)) | ((with_reducible refine gate_dst (N:=41) rfl ?_);refine Kd.R_lit k47 _ 47 ?hg (N:=41) ?hd (xs:=([(⟨a2,true,0,t21⟩ : S47)] : List (S47))) (inner:=[.int .i64 a2,.bool true,.int .i64 0,.int .i64 t21]) (ok:=fun _=>True) (okp:=fun _=>True) ?hr ?hp (fun _ hk=>hk) trivial (Below.refl _ _) (Nat.le_refl _) (by simp) ?_;(case hd=>rfl);(case hg=>rfl);(case hr=>first | (go_simp;done) | (go_simp;rfl));(case hp=>exact (Reps.c4 (show Kd.M k47 _ _ _ (⟨a2,true,0,t21⟩ : S47) [.int .i64 a2,.bool true,.int .i64 0,.int .i64 t21] from (k47_mkM _ _ _ (⟨a2,true,0,t21⟩ : S47) )) (Reps.none _ _)));intro v24 w34 ho35 hb hg_ hnew_;clear hg_ hnew_;(first | rw [← Ny23.out] at ho35 | (simp only [Int.reduceToNat] at ho35;rw [← Ny23.out] at ho35));have n0_:=rb_ HO20 hb;have n1_:=a0_ (Kd.R_lower ho35 (keep_size (w:=w) (g:=g) (row:=none) hk_));have n2_:=kb_ BK1 hb;have n3_:=a0_ (IsS81.below is0_ hb);have n4_:=a0_ (KeepBut.trans (w:=w) hk_ (KeepBut.of_below hb g none) (.inl rfl));have n5_:=a0_ (below_step hbi0_ hb);clear HO20 BK1;clear HI0 HK HB;have HO20:=n0_;have HO25:=n1_;have BK1:=n2_;have HI0:=n3_;have HK:=n4_;have HB:=n5_;clear n0_ n1_ n2_ n3_ n4_ n5_;clear hb ho35) | ((with_reducible refine gate_dst (N:=43) rfl ?_);refine Kd.R_lit (Kd.int .i64) _ 3 ?hg (N:=43) ?hd (xs:=([2,3,1] : List Int)) (inner:=[.int .i64 2,.int .i64 3,.int .i64 1]) (ok:=fun _=>True) (okp:=fun _=>True) ?hr ?hp (fun _ hk=>hk) trivial (Below.refl _ _) (Nat.le_refl _) (by simp) ?_;(case hd=>rfl);(case hg=>rfl);(case hr=>first | (go_simp;done) | (go_simp;rfl));(case hp=>exact (Reps.one (show Kd.M (Kd.int .i64) _ _ _ 2 [.int .i64 2] from rfl) (Reps.one (show Kd.M (Kd.int .i64) _ _ _ 3 [.int .i64 3] from rfl) (Reps.one (show Kd.M (Kd.int .i64) _ _ _ 1 [.int .i64 1] from rfl) (Reps.none _ _)))));intro v27 w36 ho37 hb hg_ hnew_;clear hg_ hnew_;(first | rw [← Ny26.out] at ho37 | (simp only [Int.reduceToNat] at ho37;rw [← Ny26.out] at ho37));have n0_:=a0_ (Kd.R_elder' (rr_ HO20.out) (Kd.R_base ho37) hb);have n1_:=rb_ HO25 hb;have n2_:=a0_ (Kd.R_lower (Kd.R_new' ho37 (Kd.R_lt (rr_ HO20.out))) (keep_size (w:=w) (g:=g) (row:=none) hk_));have n3_:=kb_ BK1 hb;have n4_:=a0_ (IsS81.below is0_ hb);have n5_:=a0_ (KeepBut.trans (w:=w) hk_ (KeepBut.of_below hb g none) (.inl rfl));have n6_:=a0_ (below_step hbi0_ hb);clear HO20 HO25;clear BK1 HI0;clear HK HB;have HO20:=n0_;have HO25:=n1_;have HO28:=n2_;have BK1:=n3_;have HI0:=n4_;have HK:=n5_;have HB:=n6_;clear n0_ n1_ n2_ n3_ n4_ n5_ n6_;clear hb ho37;obtain ⟨Ao38,co38,eo38⟩:=Kd.R_slice HO28.out;subst eo38) | ((with_reducible refine gate_callee (f:=64) rfl ?_);refine goesL_ (some 44) rfl rfl Try.func64 (by kernel_rfl) rfl #[.pointer (some ⟨g,0,none⟩),.slice Ao38 y26.length co38] rfl lm_ ?_;(with_reducible refine (spec_reader_one.calls kj3 g s0_0 t22 _ _ y26 t29 t30 w0 _ ?side1 ?side2 ?side3 ?side4 ?side5 A29.out).mono ?_);(case side1=>exact is0_);(case side2=>exact hbi0_);(case side3=>exact cc_ (Kd.R_reads' HO28.out).2.2);(case side4=>exact (Kd.R_reads' HO28.out).2.1);(case side5=>exact far_slice (IsS81.own_ne HI0.out HO28.out (by decide)));rintro e w39 ⟨rfl,hi,hb,hk⟩;refine ⟨_,rfl,?_⟩;replace BK1:=kk_ hk BK1 NB1_0;replace HO20:=a0_ (Kd.R_mono (Kd.R_keep (IsS81.apart (is0_ : IsS81 w0 _ g s0_0 t22) (rr_ HO20.out) (by decide)) hk (fun _ h=>h.2)) (fun _ h=>h.1));replace HO25:=a0_ (Kd.R_mono (Kd.R_keep (IsS81.apart (is0_ : IsS81 w0 _ g s0_0 t22) (rr_ HO25.out) (by decide)) hk (fun _ h=>h.2)) (fun _ h=>h.1));replace HO28:=a0_ (Kd.R_mono (Kd.R_keep (IsS81.apart (is0_ : IsS81 w0 _ g s0_0 t22) (rr_ HO28.out) (by decide)) hk (fun _ h=>h.2)) (fun _ h=>h.1));replace HK:=a0_ (KeepBut.trans (w:=w) hk_ hk (.inl rfl));replace HI0:=a0_ (hi);replace HB:=a0_ (hb);(try clear hb);(try clear hb2);(try clear hk);(try clear hi)))
    go_loopg [7,8] kj3 (fun kq v7 v8 w'=>∃ (x7_2 : List (S47)) (x8_2 : Int) (x1001_2 : Int),v8 = .int .i64 x8_2 ∧ Aside0 (spec_goodGroup.l0 kq a2 x7_2 x8_2 s0_0 x1001_2 l1_0 = some (r1,r2)) ∧ Aside0 (kq ≤ kj3) ∧ Aside0 (Kd.R k47 47 w' w.heap.size (fun _=>True) v7 x7_2) ∧ Aside0 (w'.heap[gb1]? = some (.cells #[(.slice A1_0 l1_0.length c1_0)] 25 (0,0))) ∧ Aside0 (IsS81 w0 w' g s0_0 x1001_2) ∧ Aside0 (KeepBut w w' g none) ∧ Aside0 (Below w0.heap.size w0 w'))
    case atStart=>exact ⟨(y23),(t29),(t30),(by first | rfl | (simp;done) | (simp [*];done)),H',⟨Nat.le_refl _⟩,⟨by (with_reducible repeat (first | apply Kd.R_alloc | apply Kd.R_drewN | apply Kd.R_drew));exact HO25.out⟩,⟨by (with_reducible repeat (first | refine blk_drewN ?_ _ | refine blk_drew ?_ | refine blk_alloc ?_ _));exact BK1.out⟩,⟨is0_⟩,⟨hk_⟩,⟨hbi0_⟩⟩
    case round =>
     clear H'
     try clear c1
     try clear p2
     try clear c4
     try clear c6
     try clear c6b0
     try clear c7
     try clear c7b0
     try clear c9
     try clear c9b0
     try clear c16
     try clear c19
     try clear hcz20_0
     try clear hfz20_0
     try clear p2
     obtain ⟨x7_2,x8_2,x1001_2,rfl,HA,HK2,HO_7,BK1,HI0,HK,HB⟩:=hrel
     cases gk with
     | zero=>exact absurd HA.out (by simp [spec_goodGroup.l0])
     | succ k2 =>
      have H:=HA.out
      clear HA
      simp only [spec_goodGroup.l0] at H
      by_cases c40 : x8_2 > 0
      ·rw [if_pos c40] at H
       have c40b0 : decide (0 < x8_2) = true:=decide_eq_true c40
       clear c40
       replace H:=Option.bind_eq_some_iff.mp H
       obtain ⟨⟨t31,t34⟩,A410,H⟩:=H
       try dsimp only at H
       have A41:=a0_ A410
       clear A410
       by_cases c42 : x7_2.length + t31.length < 4398046511104
       ·rw [if_pos c42] at H
        have LMc42:=a0_ c42
        clear c42
        obtain ⟨y35,hy35⟩ : ∃ y_ : List (S47),y_ = (x7_2 ++ t31):=⟨_,rfl⟩
        replace H : (spec_goodGroup.l0 k2 a2 y35 (wrap64 (x8_2 - 1)) s0_0 t34 l1_0) = some (r1,r2):=by first | (rw [hy35];with_reducible exact H) | (have H2_:=(Option.bind_some _ _).symm.trans H;rw [hy35];with_reducible exact H2_) | (have H2_:=(Option.bind_some _ _).symm.trans H;with_reducible exact H2_) | with_reducible exact H | (rw [hy35];exact H) | exact H
        have Ny35:=a0_ hy35
        clear hy35
        have H':=a0_ H
        clear H
        have hnb43:=NB1_0.out
        have hnc43:=NB0_1.out
        have hcz44_0 : wr.cell? ⟨gb1,0,none⟩ = some (.slice A1_0 l1_0.length c1_0):=(blk_cell BK1.out 0).trans rfl
        have hfz44_0:=blk_frozen BK1.out 0
        go_wp2_with (first | ((with_reducible refine gate_callee (f:=62) rfl ?_);refine goesL_ (some 54) rfl rfl Try.func62 (by kernel_rfl) rfl #[.pointer (some ⟨g,0,none⟩),.agg #[.slice A1_0 l1_0.length c1_0],.int .i64 (wrap64 (a2 + 1))] rfl lm_ ?_;(with_reducible refine (ih k2 (by have:=HJ3.out;have:=HK2.out;omega) g s0_0 x1001_2 _ _ l1_0 (wrap64 (a2 + 1)) t31 t34 w0 _ ?side1 ?side2 ?side3 ?side4 A41.out).mono ?_);(case side1=>exact is0_);(case side2=>exact hbi0_);(case side3=>exact Kd.C_foot_step HR1_0.out hk_);(case side4=>exact HC1_0.out);rintro e w45 ⟨v32,rfl,ho0,hi,hb,hk⟩;refine ⟨_,rfl,?_⟩;have n0_:=a0_ (Kd.R_mono (Kd.R_told (Kd.R_oldK (IsS81.apart (is0_ : IsS81 w0 _ g s0_0 x1001_2) (rr_ HO_7.out) (by decide)) hk) (Kd.R_base ho0)) (fun _ h_=>h_.1));have n1_:=kk_ hk BK1 NB1_0;have n2_:=a0_ (Kd.R_lower (Kd.R_new' ho0 (Kd.R_lt (rr_ HO_7.out))) (keep_size (w:=w) (g:=g) (row:=none) hk_));have n3_:=a0_ (KeepBut.trans (w:=w) hk_ hk (.inl rfl));have n4_:=a0_ (hb);have n5_:=a0_ (hi);clear HO_7 BK1;clear HK HB HI0;have HO_7:=n0_;have BK1:=n1_;have HO33:=n2_;have HK:=n3_;have HB:=n4_;have HI0:=n5_;clear n0_ n1_ n2_ n3_ n4_ n5_;(try clear hb);(try clear ho0);obtain ⟨Ao47,co47,eo47⟩:=Kd.R_slice HO33.out;subst eo47) | ((with_reducible refine gate_builtin (b:=.append) (xs:=#[.tmp 49,.tmp 54]) rfl ?_);at_builtin;refine Kd.R_append_rows k47 w.heap.size rfl (.tmp 49) (.tmp 54) 26 47 (.agg #[(.int .i64 0),(.bool false),(.int .i64 0),(.int .i64 0)]) 32 rfl Try.underlying26 info47 rfl (by decide) (by omega) u7 x7_2 t31 _ _ _ (fun k_=>some k_ ≠ (.slice Ao47 t31.length co47 : Value).ownBlock) (fun _=>False) rfl rfl ?aO ?aR (fun _ _ h=>h) (fun _ h=>h.elim) ?aF (Below.refl _ _) ?aS ?aL ?_;(case aR=>exact cc_ (Kd.R_reads' HO33.out).2.2);(case aF=>exact (fun k_ hk=>Kd.fresh' (Kd.R_lt (rr_ HO33.out)) k_ hk));(case aO=>exact (rm_ HO_7.out (fun _ hk=>hk.2)));(case aS=>exact (keep_size (w:=w) (g:=g) (row:=none) hk_));(case aL=>have:=LMc42.out;omega);intro v36 w46 ho hb hg hat;rw [← Ny35.out] at ho;have n0_:=a0_ (blk_grown (bb_ BK1.out) hg (Kd.R_ne HO_7.out BK1.out (by decide)));have n1_:=a0_ (IsS81.grown is0_ hg (IsS81.own_ne HI0.out HO_7.out (by decide)));have n2_:=a0_ (Kd.R_after (ok:=(fun _=>True)) (rr_ HO33.out) hg hat);have n3_:=a0_ (below_weaken hbi0_ HL.out hb);have n4_:=a0_ (KeepBut.trans (w:=w) hk_ (KeepBut.of_grown hg g) (Kd.R_base2 HO_7.out));have n5_:=a0_ (ho);clear BK1 HI0;clear HO33 HB;clear HK HO_7;have BK1:=n0_;have HI0:=n1_;have HO33:=n2_;have HB:=n3_;have HK:=n4_;have HO37:=n5_;clear n0_ n1_ n2_ n3_ n4_ n5_;clear ho hb hg hat))
        go_roundg k2
        case measure=>have:=HJ3.out;have:=HK2.out;omega
        case rel=>exact ⟨(y35),(wrap64 (x8_2 - 1)),(t34),(by first | rfl | (simp;done) | (simp [*];done)),H',⟨by have:=HJ3.out;have:=HK2.out;omega⟩,⟨by (with_reducible repeat (first | apply Kd.R_alloc | apply Kd.R_drewN | apply Kd.R_drew));exact Kd.R_mono HO37.out (fun _ hk=>trivial)⟩,⟨by (with_reducible repeat (first | refine blk_drewN ?_ _ | refine blk_drew ?_ | refine blk_alloc ?_ _));exact BK1.out⟩,⟨is0_⟩,⟨hk_⟩,⟨hbi0_⟩⟩
       ·rw [if_neg c42] at H
        exact absurd H (by simp)
      ·rw [if_neg c40] at H
       have c40b0 : decide (0 < x8_2) = false:=decide_eq_false c40
       clear c40
       simp only [Option.some.injEq,Prod.mk.injEq] at H
       obtain ⟨rfl,rfl⟩:=H
       go_wp2
       go_ret
       exact ⟨_,by first | rfl | (simp [errW_none,errW_some] <;> rfl) | (simp [*,errW_none,errW_some] <;> rfl),by (with_reducible repeat (first | apply Kd.R_alloc | apply Kd.R_drewN | apply Kd.R_drew));exact HO_7.out,is0_,hbi0_,hk_⟩
theorem spec_goodGroup_leaf (b : List Int) (hb : byL b) (t : List Cls) (d q : Int) (h0 : 0 ≤ q) (h1 : q ≤ 1099511600000) : ∃ g q',Ev (fun k=>spec_goodGroup.j0 k d true b q t) (g,q') ∧ q ≤ q' ∧ q' ≤ q + 2 ∧ g.length = 1:=by
 obtain ⟨x,hx,x0,x1,_⟩:=spec_pick_ev b q (t.length : Int) hb h0 (by omega)
 obtain ⟨c,hc,hcm⟩:=spec_one_ev b (q + 1) [1,2,3,0,99] hb (by omega) (by omega) (by simp)
 refine ⟨[⟨d,false,x,c⟩],q + 1 + 1,Ev.succ ?_,by omega,by omega,rfl⟩
 simp only [spec_goodGroup.j0]
 exact Ev.pos trivial (Ev.bind hx (Ev.bind hc (Ev.const rfl)))
theorem spec_goodGroup_ev (b : List Int) (hb : byL b) (t : List Cls) : ∀ (n : Nat) (d q : Int),d + n = 3 → 0 ≤ d → 0 ≤ q → q + cG n ≤ 1099511600000 → lG n ≤ 100 → ∃ g q',Ev (fun k=>spec_goodGroup.f k b q t d) (g,q') ∧ q ≤ q' ∧ q' ≤ q + cG n ∧ 1 ≤ g.length ∧ g.length ≤ lG n:=by
 intro n
 induction n with
 | zero =>
  intro d q hd h00 h0 h1 _
  obtain ⟨g,q',hg,g1,g2,g3⟩:=spec_goodGroup_leaf b hb t d q h0 (by rw [cG] at h1;omega)
  refine ⟨g,q',Ev.succ ?_,g1,by rw [cG];omega,by omega,by rw [lG];omega⟩
  simp only [spec_goodGroup.f]
  exact Ev.pos (by omega) hg
 | succ n ih =>
  intro d q hd h00 h0 h1 hL
  rw [cG] at h1 ⊢
  rw [lG] at hL ⊢
  have hcp:=cG_pos n
  have hlp:=lG_pos n
  have loop : ∀ (m : Nat) (r : Int) (g : List Prt),m ≤ 3 → 0 ≤ r → r + m * cG n ≤ 1099511600000 → g.length + m * lG n ≤ 1000000 → ∃ g' r',Ev (fun k=>spec_goodGroup.l0 k d g (m : Int) b r t) (g',r') ∧ r ≤ r' ∧ r' ≤ r + m * cG n ∧ g.length ≤ g'.length ∧ g'.length ≤ g.length + m * lG n:=by
   intro m
   induction m with
   | zero =>
    intro r g _ hr0 hr1 hgl
    refine ⟨g,r,Ev.succ ?_,Int.le_refl _,by omega,Nat.le_refl _,by omega⟩
    simp only [spec_goodGroup.l0]
    exact Ev.neg (by omega) (Ev.const rfl)
   | succ m ihm =>
    intro r g hm3 hr0 hr1 hgl
    have e1 : ((m + 1 : Nat) : Int) * cG n = (m : Int) * cG n + cG n:=by rw [Int.natCast_add,Int.add_mul];simp
    have e2 : (m + 1) * lG n = m * lG n + lG n:=by rw [Nat.add_mul,Nat.one_mul]
    have e3 : 0 ≤ (m : Int) * cG n:=Int.mul_nonneg (by omega) (by omega)
    rw [e1] at hr1 ⊢
    rw [e2] at hgl ⊢
    obtain ⟨k1,r1,hk,a1,a2,a3,a4⟩:=ih (d + 1) r (by omega) (by omega) hr0 (by omega) (by omega)
    obtain ⟨g',r',hg,b1,b2,b3,b4⟩:=ihm r1 (g ++ k1) (by omega) (by omega) (by omega) (by rw [List.length_append];omega)
    rw [List.length_append] at b3 b4
    refine ⟨g',r',Ev.succ ?_,by omega,by omega,by omega,by omega⟩
    have ew : wrap64 (d + 1) = d + 1:=wrap_in (by omega) (by omega)
    have ew2 : wrap64 (((m + 1 : Nat) : Int) - 1) = (m : Int):=by rw [wrap_in (by omega) (by omega)];omega
    simp only [spec_goodGroup.l0,ew,ew2]
    exact Ev.pos (by omega) (Ev.bind hk (Ev.pos (by simp only;omega) hg))
  have group : ∀ r : Int,q ≤ r → r ≤ q + 2 → ∃ g r',Ev (fun k=>spec_goodGroup.j0 k d false b r t) (g,r') ∧ r ≤ r' ∧ r' ≤ r + 2 + 3 * cG n ∧ 1 ≤ g.length ∧ g.length ≤ 1 + 3 * lG n:=by
   intro r hr hr2
   obtain ⟨x,hx,_⟩:=spec_one_ev b r [1,2,0,7] hb (by omega) (by omega) (by simp)
   obtain ⟨y,hy,hym⟩:=spec_one_ev b (r + 1) [2,3,1] hb (by omega) (by omega) (by simp)
   have hyr : 1 ≤ y ∧ y ≤ 3:=by
    simp only [List.mem_cons,List.not_mem_nil,or_false] at hym
    omega
   obtain ⟨m,rfl⟩:=Int.eq_ofNat_of_zero_le (show 0 ≤ y by omega)
   have hm : m ≤ 3:=by omega
   have e1 : (m : Int) * cG n ≤ 3 * cG n:=Int.mul_le_mul_of_nonneg_right (by omega) (by omega)
   have e2 : m * lG n ≤ 3 * lG n:=Nat.mul_le_mul_right _ hm
   obtain ⟨g,r',hg,b1,b2,b3,b4⟩:=loop m (r + 1 + 1) [⟨d,true,0,x⟩] hm (by omega) (by omega) (by simp;omega)
   have b3' : 1 ≤ g.length:=b3
   have b4' : g.length ≤ 1 + m * lG n:=b4
   refine ⟨g,r',Ev.succ ?_,by omega,by omega,b3',by omega⟩
   simp only [spec_goodGroup.j0]
   exact Ev.neg (by simp) (Ev.bind hx (Ev.bind hy hg))
  have end8 : ∀ r : Int,q ≤ r → r ≤ q + 1 → ∃ g r',Ev (fun k=>(spec_reader_pick.f k b r 8).bind fun bt=>spec_goodGroup.j0 k d (bt.1 == 0) b bt.2 t) (g,r') ∧ q ≤ r' ∧ r' ≤ q + (4 + 3 * cG n) ∧ 1 ≤ g.length ∧ g.length ≤ 1 + 3 * lG n:=by
   intro r hr hr2
   obtain ⟨x,hx,_⟩:=spec_pick_ev b r 8 hb (by omega) (by omega)
   cases hz : (x == 0) with
   | true =>
    obtain ⟨g,r',hg,b1,b2,b3⟩:=spec_goodGroup_leaf b hb t d (r + 1) (by omega) (by omega)
    exact ⟨g,r',Ev.bind hx (by simp only [hz];exact hg),by omega,by omega,by omega,by omega⟩
   | false =>
    obtain ⟨g,r',hg,b1,b2,b3,b4⟩:=group (r + 1) (by omega) (by omega)
    exact ⟨g,r',Ev.bind hx (by simp only [hz];exact hg),by omega,by omega,b3,b4⟩
  by_cases hdz : d > 0
  ·obtain ⟨x,hx,x0,_⟩:=spec_pick_ev b q 5 hb h0 (by omega)
   by_cases hx1 : x > 1
   ·obtain ⟨g,r',hg,b1,b2,b3⟩:=spec_goodGroup_leaf b hb t d (q + 1) (by omega) (by omega)
    refine ⟨g,r',Ev.succ ?_,by omega,by omega,by omega,by omega⟩
    simp only [spec_goodGroup.f]
    exact Ev.neg (by omega) (Ev.pos hdz (Ev.bind hx (Ev.pos hx1 hg)))
   ·obtain ⟨g,r',hg,b1,b2,b3,b4⟩:=end8 (q + 1) (by omega) (by omega)
    refine ⟨g,r',Ev.succ ?_,b1,b2,b3,b4⟩
    simp only [spec_goodGroup.f]
    exact Ev.neg (by omega) (Ev.pos hdz (Ev.bind hx (Ev.neg hx1 hg)))
  ·obtain ⟨g,r',hg,b1,b2,b3,b4⟩:=end8 q (by omega) (by omega)
   refine ⟨g,r',Ev.succ ?_,b1,b2,b3,b4⟩
   simp only [spec_goodGroup.f]
   exact Ev.neg (by omega) (Ev.neg hdz hg)
end Go.Proofs.Ytfphcdbnnienhaa.P
namespace Go.Proofs.Ytfphcdbnnienhaa.P
open Go.RowKit Go.Proofs.YtfphcdbnnienhaaW.PrintWords Go.Proofs.YtfphcdbnnienhaaW.PrintLast Go.Proofs.YtfphcdbnnienhaaW.PrintMore
attribute [local go_sem] max2_int min2_int max_two min_two max_three min_three max_four min_four
set_option linter.unusedVariables false
set_option linter.unusedSimpArgs false
mutual
def spec_someGroup.j1 : Nat → List (S47) → List Int → Int → List (S85) → Option ((List (S85)) × (List (S47)) × Int)
 | 0,_,_,_,_=>none
 | k + 1,x5,x1000,x1001,x7000=>(spec_reader_pick.f k x1000 x1001 (x5.length : Int)).bind fun bt20=>((spec_reader_pick.f k x1000 bt20.2 24).bind fun bt22=>(if bt22.1 = 0 then ((spec_reader_one.f k x1000 bt22.2 (([(-1),6,0,1] : List Int))).bind fun bt27=>(if 0 ≤ bt20.1 then (if bt20.1 < (x5.length : Int) then (some (x7000,(x5.set (bt20.1 : Int).toNat (⟨bt27.1,(rd_T47 x5 bt20.1).f1,(rd_T47 x5 bt20.1).f2,(rd_T47 x5 bt20.1).f3⟩ : S47)),bt27.2)) else (none)) else (none))) else (if bt22.1 = 1 then ((spec_reader_one.f k x1000 bt22.2 (([(-1),8,1] : List Int))).bind fun bt33=>(if 0 ≤ bt20.1 then (if bt20.1 < (x5.length : Int) then (some (x7000,(x5.set (bt20.1 : Int).toNat (⟨(rd_T47 x5 bt20.1).f0,(rd_T47 x5 bt20.1).f1,bt33.1,(rd_T47 x5 bt20.1).f3⟩ : S47)),bt33.2)) else (none)) else (none))) else (if bt22.1 = 2 then ((spec_reader_one.f k x1000 bt22.2 (([(-1),100] : List Int))).bind fun bt39=>(if 0 ≤ bt20.1 then (if bt20.1 < (x5.length : Int) then (some (x7000,(x5.set (bt20.1 : Int).toNat (⟨(rd_T47 x5 bt20.1).f0,(rd_T47 x5 bt20.1).f1,(rd_T47 x5 bt20.1).f2,bt39.1⟩ : S47)),bt39.2)) else (none)) else (none))) else (if bt22.1 = 3 then (if 0 ≤ bt20.1 then (if bt20.1 < (x5.length : Int) then (some (x7000,(x5.set (bt20.1 : Int).toNat (⟨(rd_T47 x5 bt20.1).f0,!((rd_T47 x5 bt20.1).f1),(rd_T47 x5 bt20.1).f2,(rd_T47 x5 bt20.1).f3⟩ : S47)),bt22.2)) else (none)) else (none)) else (some (x7000,x5,bt22.2)))))))
def spec_someGroup.l0 : Nat → List (S47) → Int → List Int → Int → List (S85) → Option ((List (S85)) × (List (S47)) × Int)
 | 0,_,_,_,_,_=>none
 | k + 1,x5,x6,x1000,x1001,x7000=>if x6 < (x5.length : Int) then (if 0 ≤ x6 then (spec_someGroup.l0 k (x5.set (x6 : Int).toNat (⟨wrap64 (((rd_T47 x5 x6).f0) - 2),(rd_T47 x5 x6).f1,(rd_T47 x5 x6).f2,(rd_T47 x5 x6).f3⟩ : S47)) (wrap64 (x6 + 1)) x1000 x1001 x7000) else (none)) else (spec_someGroup.j1 k x5 x1000 x1001 x7000)
end
def spec_someGroup.f (k : Nat) (s0_0 : List Int) (s0_1 : Int) : Option ((List (S85)) × (List (S47)) × Int):=(spec_someTree.f k s0_0 s0_1).bind fun bt2=>(if (bt2.1.length : Int) = 0 then (some (bt2.1,(([(⟨0,false,0,0⟩ : S47)] : List (S47))),bt2.2)) else ((spec_goodGroup.f k s0_0 bt2.2 bt2.1 0).bind fun bt10=>(if (bt10.1.length : Int) > 16 then ((spec_goodGroup.f k s0_0 bt10.2 bt2.1 2).bind fun bt14=>(spec_someGroup.l0 k bt14.1 0 s0_0 bt14.2 bt2.1)) else (spec_someGroup.j1 k bt10.1 s0_0 bt10.2 bt2.1))))
theorem spec_someGroup.mono_l : ∀ k,(∀ y0 y1 y2 y3,LeO (spec_someGroup.j1 k y0 y1 y2 y3) (spec_someGroup.j1 (k + 1) y0 y1 y2 y3)) ∧ (∀ y0 y1 y2 y3 y4,LeO (spec_someGroup.l0 k y0 y1 y2 y3 y4) (spec_someGroup.l0 (k + 1) y0 y1 y2 y3 y4))
 | 0=>⟨fun _ _ _ _ r h=>by simp [spec_someGroup.j1] at h,fun _ _ _ _ _ r h=>by simp [spec_someGroup.l0] at h⟩
 | k + 1=>by
  obtain ⟨ih0,ih1⟩:=spec_someGroup.mono_l k
  refine ⟨?_,?_⟩
  ·intro y0 y1 y2 y3
   unfold spec_someGroup.j1
   repeat' first
   | (with_reducible exact ih0 _ _ _ _)
   | (with_reducible exact ih1 _ _ _ _ _)
   | (with_reducible exact spec_goodGroup.mono _ _ _ _ _)
   | (with_reducible exact spec_reader_one.mono _ _ _ _)
   | (with_reducible exact spec_reader_pick.mono _ _ _ _)
   | (with_reducible exact spec_someTree.mono _ _ _)
   | (with_reducible exact LeO.refl _)
   | (with_reducible exact LeO.none _)
   | (with_reducible refine LeO.ite ?_ ?_)
   | (with_reducible refine LeO.bind ?_ (fun _=>?_))
   | exact ih0 _ _ _ _
   | exact ih1 _ _ _ _ _
   | exact spec_goodGroup.mono _ _ _ _ _
   | exact spec_reader_one.mono _ _ _ _
   | exact spec_reader_pick.mono _ _ _ _
   | exact spec_someTree.mono _ _ _
   | exact LeO.none _
   | refine LeO.ite ?_ ?_
   | refine LeO.bind ?_ (fun _=>?_)
  ·intro y0 y1 y2 y3 y4
   unfold spec_someGroup.l0
   repeat' first
   | (with_reducible exact ih0 _ _ _ _)
   | (with_reducible exact ih1 _ _ _ _ _)
   | (with_reducible exact spec_goodGroup.mono _ _ _ _ _)
   | (with_reducible exact spec_reader_one.mono _ _ _ _)
   | (with_reducible exact spec_reader_pick.mono _ _ _ _)
   | (with_reducible exact spec_someTree.mono _ _ _)
   | (with_reducible exact LeO.refl _)
   | (with_reducible exact LeO.none _)
   | (with_reducible refine LeO.ite ?_ ?_)
   | (with_reducible refine LeO.bind ?_ (fun _=>?_))
   | exact ih0 _ _ _ _
   | exact ih1 _ _ _ _ _
   | exact spec_goodGroup.mono _ _ _ _ _
   | exact spec_reader_one.mono _ _ _ _
   | exact spec_reader_pick.mono _ _ _ _
   | exact spec_someTree.mono _ _ _
   | exact LeO.none _
   | refine LeO.ite ?_ ?_
   | refine LeO.bind ?_ (fun _=>?_)
theorem spec_someGroup.mono : ∀ a0 a1 k,LeO (spec_someGroup.f k a0 a1) (spec_someGroup.f (k + 1) a0 a1):=by
 intro a0 a1 k
 obtain ⟨ih0,ih1⟩:=spec_someGroup.mono_l k
 unfold spec_someGroup.f
 repeat' first
   | (with_reducible exact ih0 _ _ _ _)
   | (with_reducible exact ih1 _ _ _ _ _)
   | (with_reducible exact spec_goodGroup.mono _ _ _ _ _)
   | (with_reducible exact spec_reader_one.mono _ _ _ _)
   | (with_reducible exact spec_reader_pick.mono _ _ _ _)
   | (with_reducible exact spec_someTree.mono _ _ _)
   | (with_reducible exact LeO.refl _)
   | (with_reducible exact LeO.none _)
   | (with_reducible refine LeO.ite ?_ ?_)
   | (with_reducible refine LeO.bind ?_ (fun _=>?_))
   | exact ih0 _ _ _ _
   | exact ih1 _ _ _ _ _
   | exact spec_goodGroup.mono _ _ _ _ _
   | exact spec_reader_one.mono _ _ _ _
   | exact spec_reader_pick.mono _ _ _ _
   | exact spec_someTree.mono _ _ _
   | exact LeO.none _
   | refine LeO.ite ?_ ?_
   | refine LeO.bind ?_ (fun _=>?_)
set_option maxHeartbeats 8000000 in
set_option maxRecDepth 100000 in
theorem spec_someGroup.calls (k : Nat) (g : Nat) (s0_0 : List Int) (s0_1 : Int) (r1 : List (S85)) (r2 : List (S47)) (r3 : Int) (w0 w : World) (hI : IsS81 w0 w g s0_0 s0_1) (hB : Below w0.heap.size w0 w) (h : spec_someGroup.f k s0_0 s0_1 = some (r1,r2,r3)) :
  Calls Try.prog 36 #[.pointer (some ⟨g,0,none⟩)] w fun e w'=>∃ v0_ v1_ : Value,e = .returned (.tuple #[.agg #[v0_],v1_]) ∧ Kd.R k85 85 w' w.heap.size (fun _=>True) v0_ r1 ∧ Kd.R k47 47 w' w.heap.size (fun _=>True) v1_ r2 ∧ IsS81 w0 w' g s0_0 r3 ∧ Below w0.heap.size w0 w' ∧ KeepBut w w' g none:=by
 have hu25:=Try.underlying25
 have hu47:=Try.underlying47
 have HI0:=a0_ hI
 have HK:=a0_ (KeepBut.refl w g none)
 have HL:=a0_ hB.size
 clear hI
 have HW0:=a0_ hB.size
 have HB:=a0_ hB
 clear hB
 have H : ((spec_someTree.f k s0_0 s0_1).bind fun bt2=>(if (bt2.1.length : Int) = 0 then (some (bt2.1,(([(⟨0,false,0,0⟩ : S47)] : List (S47))),bt2.2)) else ((spec_goodGroup.f k s0_0 bt2.2 bt2.1 0).bind fun bt10=>(if (bt10.1.length : Int) > 16 then ((spec_goodGroup.f k s0_0 bt10.2 bt2.1 2).bind fun bt14=>(spec_someGroup.l0 k bt14.1 0 s0_0 bt14.2 bt2.1)) else (spec_someGroup.j1 k bt10.1 s0_0 bt10.2 bt2.1))))) = some (r1,r2,r3):=h
 clear h
 replace H:=Option.bind_eq_some_iff.mp H
 obtain ⟨⟨t2,t5⟩,A20,H⟩:=H
 try dsimp only at H
 have A2:=a0_ A20
 clear A20
 by_cases c3 : (t2.length : Int) = 0
 ·rw [if_pos c3] at H
  have c3b0 : ((t2.length : Int) == 0) = true:=beq_iff_eq.mpr c3
  have c3b1 : ((t2.length : Int) != 0) = false:=bne_eq_false_iff_eq.mpr c3
  clear c3
  obtain ⟨y7,hy7⟩ : ∃ y_ : List (S47),y_ = (([(⟨0,false,0,0⟩ : S47)] : List (S47))):=⟨_,rfl⟩
  replace H : (some (t2,y7,t5)) = some (r1,r2,r3):=by first | (rw [hy7];with_reducible exact H) | (have H2_:=(Option.bind_some _ _).symm.trans H;rw [hy7];with_reducible exact H2_) | (have H2_:=(Option.bind_some _ _).symm.trans H;with_reducible exact H2_) | with_reducible exact H | (rw [hy7];exact H) | exact H
  have Ny7:=a0_ hy7
  clear hy7
  simp only [Option.some.injEq,Prod.mk.injEq] at H
  obtain ⟨rfl,rfl,rfl⟩:=H
  go_enter Try.func36,Try.ntmps36
  go_wp2_with (first | ((with_reducible refine gate_dst (N:=2) rfl ?_);refine box_event ?hg (N:=2) ?hd (cs:=#[.slice none 0 0]) (t:=25) ?hr ?_;(case hd=>rfl);(case hg=>rfl);(case hr=>first | (go_simp;done) | (go_simp;rfl));intro gb1 hg w4 hbox hb;have n0_:=a0_ (IsS81.below is0_ hb);have n1_:=a0_ (KeepBut.trans (w:=w) hk_ (KeepBut.of_below hb g none) (.inl rfl));have n2_:=a0_ (below_step hbi0_ hb);have n3_:=a0_ (hbox);have n4_:=a0_ ((by rw [hg];exact (keep_size (w:=w) (g:=g) (row:=none) hk_) : w.heap.size ≤ gb1));have n5_:=a0_ ((Nat.le_trans HW0.out (by rw [hg];exact (keep_size (w:=w) (g:=g) (row:=none) hk_) : w.heap.size ≤ gb1) : w0.heap.size ≤ gb1));have n6_:=a0_ ((by rw [hg];exact Nat.ne_of_lt (IsS81.lt (is0_ : IsS81 w0 _ g s0_0 s0_1)) : g ≠ gb1));have n7_:=a0_ ((by rw [hg];exact Nat.ne_of_gt (IsS81.lt (is0_ : IsS81 w0 _ g s0_0 s0_1)) : gb1 ≠ g));clear HI0 HK HB;have HI0:=n0_;have HK:=n1_;have HB:=n2_;have BK1:=n3_;have GW1:=n4_;have GE1:=n5_;have NB0_1:=n6_;have NB1_0:=n7_;clear n0_ n1_ n2_ n3_ n4_ n5_ n6_ n7_;clear hb hbox hg) | ((with_reducible refine gate_callee (f:=61) rfl ?_);refine goesL_ (some 9) rfl rfl Try.func61 (by kernel_rfl) rfl #[.pointer (some ⟨g,0,none⟩)] rfl lm_ ?_;(with_reducible refine (spec_someTree.calls k g s0_0 s0_1 t2 t5 w0 _ ?side1 ?side2 A2.out).mono ?_);(case side1=>exact is0_);(case side2=>exact hbi0_);rintro e w5 ⟨v3,rfl,ho0,hi,hb,hk⟩;refine ⟨_,rfl,?_⟩;replace BK1:=kk_ hk BK1 NB1_0;have HO4:=a0_ (Kd.R_lower ho0 (keep_size (w:=w) (g:=g) (row:=none) hk_));replace HK:=a0_ (KeepBut.trans (w:=w) hk_ hk (.inl rfl));replace HI0:=a0_ (hi);replace HB:=a0_ (hb);(try clear hb);(try clear ho0)) | ((with_reducible refine gate_dst (N:=4) rfl ?_);refine box_event ?hg (N:=4) ?hd (cs:=#[.slice none 0 0]) (t:=25) ?hr ?_;(case hd=>rfl);(case hg=>rfl);(case hr=>first | (go_simp;done) | (go_simp;rfl));intro gb6 hg w6 hbox hb;have n0_:=rb_ HO4 hb;have n1_:=a0_ (IsS81.below is0_ hb);have n2_:=kb_ BK1 hb;have n3_:=a0_ (KeepBut.trans (w:=w) hk_ (KeepBut.of_below hb g none) (.inl rfl));have n4_:=a0_ (below_step hbi0_ hb);have n5_:=a0_ (hbox);have n6_:=a0_ ((by rw [hg];exact (keep_size (w:=w) (g:=g) (row:=none) hk_) : w.heap.size ≤ gb6));have n7_:=a0_ ((Nat.le_trans HW0.out (by rw [hg];exact (keep_size (w:=w) (g:=g) (row:=none) hk_) : w.heap.size ≤ gb6) : w0.heap.size ≤ gb6));have n8_:=a0_ ((by rw [hg];exact Nat.ne_of_lt (blk_lt (bb_ BK1.out)) : gb1 ≠ gb6));have n9_:=a0_ ((by rw [hg];exact Nat.ne_of_gt (blk_lt (bb_ BK1.out)) : gb6 ≠ gb1));have n10_:=a0_ ((by rw [hg];exact Nat.ne_of_lt (IsS81.lt (is0_ : IsS81 w0 _ g s0_0 t5)) : g ≠ gb6));have n11_:=a0_ ((by rw [hg];exact Nat.ne_of_gt (IsS81.lt (is0_ : IsS81 w0 _ g s0_0 t5)) : gb6 ≠ g));clear HO4 HI0;clear BK1 HK HB;have HO4:=n0_;have HI0:=n1_;have BK1:=n2_;have HK:=n3_;have HB:=n4_;have BK6:=n5_;have GW6:=n6_;have GE6:=n7_;have NB1_6:=n8_;have NB6_1:=n9_;have NB0_6:=n10_;have NB6_0:=n11_;clear n0_ n1_ n2_ n3_ n4_ n5_ n6_ n7_ n8_ n9_ n10_ n11_;clear hb hbox hg;obtain ⟨Ao7,co7,eo7⟩:=Kd.R_slice HO4.out;subst eo7;have hnb8:=NB6_1.out;have hnc8:=NB1_6.out;have hnb9:=NB6_0.out;have hnc9:=NB0_6.out;have hcz10_0 : w6.cell? ⟨gb6,0,none⟩ = some (.slice none 0 0):=(blk_cell BK6.out 0).trans rfl;have hfz10_0:=blk_frozen BK6.out 0) | ((with_reducible refine gate_dst (N:=16) rfl ?_);refine Kd.R_lit k47 _ 47 ?hg (N:=16) ?hd (xs:=([(⟨0,false,0,0⟩ : S47)] : List (S47))) (inner:=[.int .i64 0,.bool false,.int .i64 0,.int .i64 0]) (ok:=fun _=>True) (okp:=fun _=>True) ?hr ?hp (fun _ hk=>hk) trivial (Below.refl _ _) (Nat.le_refl _) (by simp) ?_;(case hd=>rfl);(case hg=>rfl);(case hr=>first | (go_simp;done) | (go_simp;rfl));(case hp=>exact (Reps.c4 (show Kd.M k47 _ _ _ (⟨0,false,0,0⟩ : S47) [.int .i64 0,.bool false,.int .i64 0,.int .i64 0] from (k47_mkM _ _ _ (⟨0,false,0,0⟩ : S47) )) (Reps.none _ _)));intro v8 w11 ho12 hb hg_ hnew_;clear hg_ hnew_;(first | rw [← Ny7.out] at ho12 | (simp only [Int.reduceToNat] at ho12;rw [← Ny7.out] at ho12));have n0_:=a0_ (Kd.R_below (by (with_reducible repeat (first | apply Kd.R_alloc | apply Kd.R_drewN | apply Kd.R_drew));exact (Kd.R_mono (Kd.R_far (p:=⟨gb6,0,none⟩) (Kd.R_types HO4.out BK6.out (by decide)) (fun _ hk=>hk.2) (.slice Ao7 t2.length co7)) (fun _ h_=>h_.1))) hb);have n1_:=a0_ (Kd.R_lower ho12 (keep_size (w:=w) (g:=g) (row:=none) hk_));have n2_:=a0_ (IsS81.below (is0_ : IsS81 w0 (w6.setCell ⟨gb6,0,none⟩ (.slice Ao7 t2.length co7)) g s0_0 t5) hb);have n3_:=kf_ BK1 NB1_6 hb;have n4_:=a0_ (blk_below (g:=gb6) (o:=.cells #[.slice Ao7 t2.length co7] 25 (0,0)) (by (with_reducible repeat (first | refine blk_drewN ?_ _ | refine blk_drew ?_ | refine blk_alloc ?_ _));refine blk_put (cs:=#[.slice none 0 0]) ?_ 0 _ rfl;(with_reducible repeat (first | refine blk_drewN ?_ _ | refine blk_drew ?_ | refine blk_alloc ?_ _));exact BK6.out) hb);have n5_:=a0_ (KeepBut.trans (w:=w) hk_ (KeepBut.of_below hb g none) (.inl rfl));have n6_:=a0_ (below_step hbi0_ hb);clear HO4 HI0;clear BK1 BK6;clear HK HB;have HO4:=n0_;have HO9:=n1_;have HI0:=n2_;have BK1:=n3_;have BK6:=n4_;have HK:=n5_;have HB:=n6_;clear n0_ n1_ n2_ n3_ n4_ n5_ n6_;clear hb ho12;have hnb13:=NB1_0.out;have hnc13:=NB0_1.out;have hcz14_0 : w11.cell? ⟨gb1,0,none⟩ = some (.slice none 0 0):=(blk_cell BK1.out 0).trans rfl;have hfz14_0:=blk_frozen BK1.out 0))
  refine bodyPost_ret (results_ct rfl _ _ gb1 25 #[.slice Ao7 t2.length co7] (0,0) _ rfl (by (with_reducible repeat (first | refine blk_drewN ?_ _ | refine blk_drew ?_ | refine blk_alloc ?_ _));refine blk_put (cs:=#[.slice none 0 0]) ?_ 0 _ rfl;(with_reducible repeat (first | refine blk_drewN ?_ _ | refine blk_drew ?_ | refine blk_alloc ?_ _));exact BK1.out) Try.underlying25 rfl (by kernel_rfl)) rfl ?_
  exact ⟨_,_,by first | rfl | (simp [errW_none,errW_some] <;> rfl) | (simp [*,errW_none,errW_some] <;> rfl),by (with_reducible repeat (first | apply Kd.R_alloc | apply Kd.R_drewN | apply Kd.R_drew));exact Kd.R_mono (Kd.R_far (p:=⟨gb1,0,none⟩) (Kd.R_types HO4.out BK1.out (by decide)) (fun _ hk=>hk.2) (.slice Ao7 t2.length co7)) (fun _ hk=>trivial),by (with_reducible repeat (first | apply Kd.R_alloc | apply Kd.R_drewN | apply Kd.R_drew));exact Kd.R_mono (Kd.R_far (p:=⟨gb1,0,none⟩) (Kd.R_types HO9.out BK1.out (by decide)) (fun _ hk=>hk.2) (.slice Ao7 t2.length co7)) (fun _ hk=>trivial),is0_,hbi0_,hk_⟩
 ·rw [if_neg c3] at H
  have c3b0 : ((t2.length : Int) == 0) = false:=beq_eq_false_iff_ne.mpr c3
  have c3b1 : ((t2.length : Int) != 0) = true:=bne_iff_ne.mpr c3
  have c3b2 : ¬ (t2 = []):=fun h_=>c3 (by rw [h_];rfl)
  replace H:=Option.bind_eq_some_iff.mp H
  obtain ⟨⟨t10,t13⟩,A150,H⟩:=H
  try dsimp only at H
  have A15:=a0_ A150
  clear A150
  have HC16:=a0_ H
  clear H
  go_enter Try.func36,Try.ntmps36
  go_upto_if 22 with (first | ((with_reducible refine gate_dst (N:=2) rfl ?_);refine box_event ?hg (N:=2) ?hd (cs:=#[.slice none 0 0]) (t:=25) ?hr ?_;(case hd=>rfl);(case hg=>rfl);(case hr=>first | (go_simp;done) | (go_simp;rfl));intro gb1 hg w17 hbox hb;have n0_:=a0_ (IsS81.below is0_ hb);have n1_:=a0_ (KeepBut.trans (w:=w) hk_ (KeepBut.of_below hb g none) (.inl rfl));have n2_:=a0_ (below_step hbi0_ hb);have n3_:=a0_ (hbox);have n4_:=a0_ ((by rw [hg];exact (keep_size (w:=w) (g:=g) (row:=none) hk_) : w.heap.size ≤ gb1));have n5_:=a0_ ((Nat.le_trans HW0.out (by rw [hg];exact (keep_size (w:=w) (g:=g) (row:=none) hk_) : w.heap.size ≤ gb1) : w0.heap.size ≤ gb1));have n6_:=a0_ ((by rw [hg];exact Nat.ne_of_lt (IsS81.lt (is0_ : IsS81 w0 _ g s0_0 s0_1)) : g ≠ gb1));have n7_:=a0_ ((by rw [hg];exact Nat.ne_of_gt (IsS81.lt (is0_ : IsS81 w0 _ g s0_0 s0_1)) : gb1 ≠ g));clear HI0 HK HB;have HI0:=n0_;have HK:=n1_;have HB:=n2_;have BK1:=n3_;have GW1:=n4_;have GE1:=n5_;have NB0_1:=n6_;have NB1_0:=n7_;clear n0_ n1_ n2_ n3_ n4_ n5_ n6_ n7_;clear hb hbox hg) | ((with_reducible refine gate_callee (f:=61) rfl ?_);refine goesL_ (some 9) rfl rfl Try.func61 (by kernel_rfl) rfl #[.pointer (some ⟨g,0,none⟩)] rfl lm_ ?_;(with_reducible refine (spec_someTree.calls k g s0_0 s0_1 t2 t5 w0 _ ?side1 ?side2 A2.out).mono ?_);(case side1=>exact is0_);(case side2=>exact hbi0_);rintro e w18 ⟨v3,rfl,ho0,hi,hb,hk⟩;refine ⟨_,rfl,?_⟩;replace BK1:=kk_ hk BK1 NB1_0;have HO4:=a0_ (Kd.R_lower ho0 (keep_size (w:=w) (g:=g) (row:=none) hk_));replace HK:=a0_ (KeepBut.trans (w:=w) hk_ hk (.inl rfl));replace HI0:=a0_ (hi);replace HB:=a0_ (hb);(try clear hb);(try clear ho0)) | ((with_reducible refine gate_dst (N:=4) rfl ?_);refine box_event ?hg (N:=4) ?hd (cs:=#[.slice none 0 0]) (t:=25) ?hr ?_;(case hd=>rfl);(case hg=>rfl);(case hr=>first | (go_simp;done) | (go_simp;rfl));intro gb6 hg w19 hbox hb;have n0_:=rb_ HO4 hb;have n1_:=a0_ (IsS81.below is0_ hb);have n2_:=kb_ BK1 hb;have n3_:=a0_ (KeepBut.trans (w:=w) hk_ (KeepBut.of_below hb g none) (.inl rfl));have n4_:=a0_ (below_step hbi0_ hb);have n5_:=a0_ (hbox);have n6_:=a0_ ((by rw [hg];exact (keep_size (w:=w) (g:=g) (row:=none) hk_) : w.heap.size ≤ gb6));have n7_:=a0_ ((Nat.le_trans HW0.out (by rw [hg];exact (keep_size (w:=w) (g:=g) (row:=none) hk_) : w.heap.size ≤ gb6) : w0.heap.size ≤ gb6));have n8_:=a0_ ((by rw [hg];exact Nat.ne_of_lt (blk_lt (bb_ BK1.out)) : gb1 ≠ gb6));have n9_:=a0_ ((by rw [hg];exact Nat.ne_of_gt (blk_lt (bb_ BK1.out)) : gb6 ≠ gb1));have n10_:=a0_ ((by rw [hg];exact Nat.ne_of_lt (IsS81.lt (is0_ : IsS81 w0 _ g s0_0 t5)) : g ≠ gb6));have n11_:=a0_ ((by rw [hg];exact Nat.ne_of_gt (IsS81.lt (is0_ : IsS81 w0 _ g s0_0 t5)) : gb6 ≠ g));clear HO4 HI0;clear BK1 HK HB;have HO4:=n0_;have HI0:=n1_;have BK1:=n2_;have HK:=n3_;have HB:=n4_;have BK6:=n5_;have GW6:=n6_;have GE6:=n7_;have NB1_6:=n8_;have NB6_1:=n9_;have NB0_6:=n10_;have NB6_0:=n11_;clear n0_ n1_ n2_ n3_ n4_ n5_ n6_ n7_ n8_ n9_ n10_ n11_;clear hb hbox hg;obtain ⟨Ao20,co20,eo20⟩:=Kd.R_slice HO4.out;subst eo20;have hnb21:=NB6_1.out;have hnc21:=NB1_6.out;have hnb22:=NB6_0.out;have hnc22:=NB0_6.out;have hcz23_0 : w19.cell? ⟨gb6,0,none⟩ = some (.slice none 0 0):=(blk_cell BK6.out 0).trans rfl;have hfz23_0:=blk_frozen BK6.out 0) | ((with_reducible refine gate_callee (f:=62) rfl ?_);refine goesL_ (some 19) rfl rfl Try.func62 (by kernel_rfl) rfl #[.pointer (some ⟨g,0,none⟩),.agg #[.slice Ao20 t2.length co20],.int .i64 0] rfl lm_ ?_;(with_reducible refine (spec_goodGroup.calls k g s0_0 t5 _ _ t2 0 t10 t13 w0 _ ?side1 ?side2 ?side3 ?side4 A15.out).mono ?_);(case side1=>exact is0_);(case side2=>exact hbi0_);(case side3=>exact Kd.C_foot_own (IsS81.apart (is0_ : IsS81 w0 _ g s0_0 t5) (by (with_reducible repeat (first | apply Kd.R_alloc | apply Kd.R_drewN | apply Kd.R_drew));exact (Kd.R_mono (Kd.R_far (p:=⟨gb6,0,none⟩) (Kd.R_types HO4.out BK6.out (by decide)) (fun _ hk=>hk.2) (.slice Ao20 t2.length co20)) (fun _ h_=>h_.1))) (by decide)) (fun _ h_=>h_.2));(case side4=>exact (Kd.R_reads' HO4.out).2.1);rintro e w24 ⟨v11,rfl,ho0,hi,hb,hk⟩;refine ⟨_,rfl,?_⟩;replace BK1:=kk_ hk BK1 NB1_0;replace HO4:=a0_ (Kd.R_mono (Kd.R_keep (IsS81.apart (is0_ : IsS81 w0 _ g s0_0 t5) (by (with_reducible repeat (first | apply Kd.R_alloc | apply Kd.R_drewN | apply Kd.R_drew));exact (Kd.R_mono (Kd.R_far (p:=⟨gb6,0,none⟩) (Kd.R_types HO4.out BK6.out (by decide)) (fun _ hk=>hk.2) (.slice Ao20 t2.length co20)) (fun _ h_=>h_.1))) (by decide)) hk (fun _ h=>h.2)) (fun _ h=>h.1));replace BK6:=a0_ (KeepBut.blk hk (g':=gb6) (o:=.cells #[.slice Ao20 t2.length co20] 25 (0,0)) (by (with_reducible repeat (first | refine blk_drewN ?_ _ | refine blk_drew ?_ | refine blk_alloc ?_ _));refine blk_put (cs:=#[.slice none 0 0]) ?_ 0 _ rfl;(with_reducible repeat (first | refine blk_drewN ?_ _ | refine blk_drew ?_ | refine blk_alloc ?_ _));exact BK6.out) NB6_0.out (by simp));have HO12:=a0_ (Kd.R_lower ho0 (keep_size (w:=w) (g:=g) (row:=none) hk_));replace HK:=a0_ (KeepBut.trans (w:=w) hk_ hk (.inl rfl));replace HI0:=a0_ (hi);replace HB:=a0_ (hb);(try clear hb);(try clear ho0);obtain ⟨Ao25,co25,eo25⟩:=Kd.R_slice HO12.out;subst eo25))
  (try simp only [Act.put,s1_,s2_,s3_])
  go_cut [5] (fun v5 wc=>∃ (kq : Nat) (x5_15 : List (S47)) (x1001_15 : Int),Aside0 (spec_someGroup.j1 kq x5_15 s0_0 x1001_15 t2 = some (r1,r2,r3)) ∧ Aside0 (kq ≤ k) ∧ Aside0 (Kd.R k47 47 wc w.heap.size (fun _=>True) v5 x5_15) ∧ Aside0 (Kd.R k85 85 wc w.heap.size (fun _=>True) (.slice Ao20 t2.length co20) t2) ∧ Aside0 (wc.heap[gb1]? = some (.cells #[(.slice none 0 0)] 25 (0,0))) ∧ Aside0 (wc.heap[gb6]? = some (.cells #[(.slice Ao20 t2.length co20)] 25 (0,0))) ∧ Aside0 (IsS81 w0 wc g s0_0 x1001_15) ∧ Aside0 (KeepBut w wc g none) ∧ Aside0 (Below w0.heap.size w0 wc))
  case first =>
   have H:=HC16.out
   clear HC16
   by_cases c26 : (t10.length : Int) > 16
   ·rw [if_pos c26] at H
    have c26b0 : decide (16 < (t10.length : Int)) = true:=decide_eq_true c26
    have c26b1 : decide (16 < t10.length) = true:=decide_eq_true (by omega)
    clear c26
    (first | rw [c26b0] | (simp only [i64_w,i32_w];rw [c26b0]) | skip)
    replace H:=Option.bind_eq_some_iff.mp H
    obtain ⟨⟨t14,t17⟩,A270,H⟩:=H
    replace H : (spec_someGroup.l0 k t14 0 s0_0 t17 t2) = some (r1,r2,r3):=H
    have A27:=a0_ A270
    clear A270
    have H':=a0_ H
    clear H
    have hnb28:=NB6_1.out
    have hnc28:=NB1_6.out
    have hnb29:=NB6_0.out
    have hnc29:=NB0_6.out
    have hcz30_0 : w24.cell? ⟨gb6,0,none⟩ = some (.slice Ao20 t2.length co20):=(blk_cell BK6.out 0).trans rfl
    have hfz30_0:=blk_frozen BK6.out 0
    go_wp2_with (first | ((with_reducible refine gate_callee (f:=62) rfl ?_);refine goesL_ (some 25) rfl rfl Try.func62 (by kernel_rfl) rfl #[.pointer (some ⟨g,0,none⟩),.agg #[.slice Ao20 t2.length co20],.int .i64 2] rfl lm_ ?_;(with_reducible refine (spec_goodGroup.calls k g s0_0 t13 _ _ t2 2 t14 t17 w0 _ ?side1 ?side2 ?side3 ?side4 A27.out).mono ?_);(case side1=>exact is0_);(case side2=>exact hbi0_);(case side3=>exact Kd.C_foot_own (IsS81.apart (is0_ : IsS81 w0 _ g s0_0 t13) (rr_ HO4.out) (by decide)) (fun _ h_=>h_.2));(case side4=>exact (Kd.R_reads' HO4.out).2.1);rintro e w31 ⟨v15,rfl,ho0,hi,hb,hk⟩;refine ⟨_,rfl,?_⟩;have n0_:=kk_ hk BK1 NB1_0;have n1_:=a0_ (Kd.R_mono (Kd.R_keep (IsS81.apart (is0_ : IsS81 w0 _ g s0_0 t13) (rr_ HO4.out) (by decide)) hk (fun _ h=>h.2)) (fun _ h=>h.1));have n2_:=kk_ hk BK6 NB6_0;have n3_:=a0_ (Kd.R_mono (Kd.R_told (Kd.R_oldK (IsS81.apart (is0_ : IsS81 w0 _ g s0_0 t13) (rr_ HO12.out) (by decide)) hk) (Kd.R_base ho0)) (fun _ h_=>h_.1));have n4_:=a0_ (Kd.R_lower (Kd.R_new' ho0 (Kd.R_lt (rr_ HO12.out))) (keep_size (w:=w) (g:=g) (row:=none) hk_));have n5_:=a0_ (KeepBut.trans (w:=w) hk_ hk (.inl rfl));have n6_:=a0_ (hb);have n7_:=a0_ (hi);clear BK1 HO4;clear BK6 HO12;clear HK HB HI0;have BK1:=n0_;have HO4:=n1_;have BK6:=n2_;have HO12:=n3_;have HO16:=n4_;have HK:=n5_;have HB:=n6_;have HI0:=n7_;clear n0_ n1_ n2_ n3_ n4_ n5_ n6_ n7_;(try clear hb);(try clear ho0)))
    go_loopg [6] k (fun kq v6 w'=>∃ (x5_1 : List (S47)) (x6_1 : Int),v6 = .int .i64 x6_1 ∧ Aside0 (spec_someGroup.l0 kq x5_1 x6_1 s0_0 t17 t2 = some (r1,r2,r3)) ∧ Aside0 (kq ≤ k) ∧ Aside0 (Kd.R k47 47 w' w.heap.size (fun _=>True) v15 x5_1) ∧ Aside0 (Kd.R k85 85 w' w.heap.size (fun _=>True) (.slice Ao20 t2.length co20) t2) ∧ Aside0 (w'.heap[gb1]? = some (.cells #[(.slice none 0 0)] 25 (0,0))) ∧ Aside0 (w'.heap[gb6]? = some (.cells #[(.slice Ao20 t2.length co20)] 25 (0,0))) ∧ Aside0 (IsS81 w0 w' g s0_0 t17) ∧ Aside0 (KeepBut w w' g none) ∧ Aside0 (Below w0.heap.size w0 w'))
    case atStart=>exact ⟨(t14),(0),(by first | rfl | (simp;done) | (simp [*];done)),H',⟨Nat.le_refl _⟩,⟨by (with_reducible repeat (first | apply Kd.R_alloc | apply Kd.R_drewN | apply Kd.R_drew));exact Kd.R_mono HO16.out (fun _ hk=>trivial)⟩,⟨by (with_reducible repeat (first | apply Kd.R_alloc | apply Kd.R_drewN | apply Kd.R_drew));exact HO4.out⟩,⟨by (with_reducible repeat (first | refine blk_drewN ?_ _ | refine blk_drew ?_ | refine blk_alloc ?_ _));exact BK1.out⟩,⟨by (with_reducible repeat (first | refine blk_drewN ?_ _ | refine blk_drew ?_ | refine blk_alloc ?_ _));exact BK6.out⟩,⟨is0_⟩,⟨hk_⟩,⟨hbi0_⟩⟩
    case round =>
     clear H'
     try clear c1
     try clear c2
     try clear p2
     try clear c3
     try clear c3b0
     try clear c3b1
     try clear c3b2
     try clear c4
     try clear c6
     try clear c8
     try clear c9
     try clear c13
     try clear c21
     try clear c22
     try clear c26
     try clear c26b0
     try clear c26b1
     try clear c28
     try clear c29
     try clear hcz10_0
     try clear hcz14_0
     try clear hcz23_0
     try clear hcz30_0
     try clear hfz10_0
     try clear hfz14_0
     try clear hfz23_0
     try clear hfz30_0
     obtain ⟨x5_1,x6_1,rfl,HA,HK1,HO_5,Z7,BK1,BK6,HI0,HK,HB⟩:=hrel
     cases gk with
     | zero=>exact absurd HA.out (by simp [spec_someGroup.l0])
     | succ k1 =>
      have H:=HA.out
      clear HA
      simp only [spec_someGroup.l0] at H
      by_cases c32 : x6_1 < (x5_1.length : Int)
      ·rw [if_pos c32] at H
       have c32b0 : decide (x6_1 < (x5_1.length : Int)) = true:=decide_eq_true c32
       clear c32
       by_cases c33 : 0 ≤ x6_1
       ·rw [if_pos c33] at H
        have c33b0 : decide (0 ≤ x6_1) = true:=decide_eq_true c33
        clear c33
        obtain ⟨y19,hy19⟩ : ∃ y_ : List (S47),y_ = (x5_1.set (x6_1 : Int).toNat (⟨wrap64 (((rd_T47 x5_1 x6_1).f0) - 2),(rd_T47 x5_1 x6_1).f1,(rd_T47 x5_1 x6_1).f2,(rd_T47 x5_1 x6_1).f3⟩ : S47)):=⟨_,rfl⟩
        replace H : (spec_someGroup.l0 k1 y19 (wrap64 (x6_1 + 1)) s0_0 t17 t2) = some (r1,r2,r3):=by first | (rw [hy19];with_reducible exact H) | (have H2_:=(Option.bind_some _ _).symm.trans H;rw [hy19];with_reducible exact H2_) | (have H2_:=(Option.bind_some _ _).symm.trans H;with_reducible exact H2_) | with_reducible exact H | (rw [hy19];exact H) | exact H
        have Ny19:=a0_ hy19
        clear hy19
        have H':=a0_ H
        clear H
        obtain ⟨Ao35,co35,eo35⟩:=Kd.R_slice HO_5.out
        subst eo35
        have p18 : 0 ≤ (x6_1 : Int):=of_decide_eq_true (by first | (with_reducible assumption) | assumption)
        have q18 : x6_1 < (x5_1.length : Int):=of_decide_eq_true (by first | (with_reducible assumption) | assumption)
        obtain ⟨ad18,e18,hx18_0,hx18_1,hx18_2,hx18_3⟩:=at_T47 (Kd.R_reads' HO_5.out).2.2 x6_1 p18 q18
        cases e18
        replace p18:=eq_true p18
        replace q18:=eq_true q18
        have p34 : 0 ≤ (x6_1 : Int):=of_decide_eq_true (by first | (with_reducible assumption) | assumption)
        have q34 : (x6_1 : Int) < ((x5_1.length : Int) : Int):=of_decide_eq_true (by first | (with_reducible assumption) | assumption)
        obtain ⟨go34,co34,eo34,gb34,gl34,cl34,HG34⟩:=Kd.R_form HO_5.out (by omega)
        (first | cases eo34 | (injection eo34 with ea_ en_ ec_;(first | subst ea_ | (injection ea_ with ea_;subst ea_));subst ec_;clear en_))
        have GB34:=a0_ gb34
        have GG34:=a0_ HG34
        clear gb34 gl34 HG34
        (first | simp only [add_plain] at hx18_0 | skip)
        (first | simp only [add_plain] at hx18_1 | skip)
        (first | simp only [add_plain] at hx18_2 | skip)
        (first | simp only [add_plain] at hx18_3 | skip)
        obtain ⟨ce34,hcl34,hM34,hcc34,hfr34⟩:=Kd.R_elem HO_5.out z47 (x6_1 : Int) p34 q34
        obtain rfl:=k47_openM hM34
        have hx34_0 : wr.cell? ⟨go34,(x6_1 : Int).toNat * 4,none⟩ = some (.int .i64 ((rd_T47 x5_1 x6_1).f0)):=hcc34 0 _ rfl
        have hx34_1 : wr.cell? ⟨go34,(x6_1 : Int).toNat * 4 + 1,none⟩ = some (.bool ((rd_T47 x5_1 x6_1).f1)):=hcc34 1 _ rfl
        have hx34_2 : wr.cell? ⟨go34,(x6_1 : Int).toNat * 4 + 2,none⟩ = some (.int .i64 ((rd_T47 x5_1 x6_1).f2)):=hcc34 2 _ rfl
        have hx34_3 : wr.cell? ⟨go34,(x6_1 : Int).toNat * 4 + 3,none⟩ = some (.int .i64 ((rd_T47 x5_1 x6_1).f3)):=hcc34 3 _ rfl
        have hf34_0 : wr.frozen? ⟨go34,(x6_1 : Int).toNat * 4,none⟩ = false:=hfr34 0
        have hf34_1 : wr.frozen? ⟨go34,(x6_1 : Int).toNat * 4 + 1,none⟩ = false:=hfr34 1
        have hf34_2 : wr.frozen? ⟨go34,(x6_1 : Int).toNat * 4 + 2,none⟩ = false:=hfr34 2
        have hf34_3 : wr.frozen? ⟨go34,(x6_1 : Int).toNat * 4 + 3,none⟩ = false:=hfr34 3
        clear hcl34 hcc34 hfr34 hM34
        replace p34:=eq_true p34
        replace q34:=eq_true q34
        have HX36:=a0_ (show Kd.R k47 47 wr w.heap.size (fun _=>True) (.slice (some ⟨go34,0,none⟩) x5_1.length co35) x5_1 from (rr_ HO_5.out))
        obtain ⟨ce36,hcl36,hM36,hcc36,hfr36⟩:=Kd.R_elem HX36.out z47 (x6_1 : Int) (of_decide_eq_true (by first | (with_reducible assumption) | assumption)) (by have h_ : (x6_1 : Int) < ((x5_1.length : Int) : Int):=of_decide_eq_true (by first | (with_reducible assumption) | assumption);first | exact h_ | (have e_:=(Kd.R_reads' HO_5.out).1;omega) | simpa using h_)
        obtain rfl:=k47_openM hM36
        have HP36:=Kd.R_seg HX36.out (x6_1 : Int) (of_decide_eq_true (by first | (with_reducible assumption) | assumption)) (by have h_ : (x6_1 : Int) < ((x5_1.length : Int) : Int):=of_decide_eq_true (by first | (with_reducible assumption) | assumption);first | exact h_ | (have e_:=(Kd.R_reads' HO_5.out).1;omega) | simpa using h_) (seg:=[.int .i64 (wrap64 (((rd_T47 x5_1 x6_1).f0) - 2))]) (j:=0) hcl36 hcc36 (show 1 ≤ 4 from by decide) (x':=(⟨wrap64 (((rd_T47 x5_1 x6_1).f0) - 2),(rd_T47 x5_1 x6_1).f1,(rd_T47 x5_1 x6_1).f2,(rd_T47 x5_1 x6_1).f3⟩ : S47)) (k47_mkM _ _ _ (⟨wrap64 (((rd_T47 x5_1 x6_1).f0) - 2),(rd_T47 x5_1 x6_1).f1,(rd_T47 x5_1 x6_1).f2,(rd_T47 x5_1 x6_1).f3⟩ : S47) ) (fun _ hk=>hk)
        have hx36_0:=hcc36 0 _ rfl
        (try simp only [show (k47).sz = 4 from rfl,Nat.mul_one,Nat.add_zero] at hx36_0)
        have hf36_0:=hfr36 0
        (try simp only [show (k47).sz = 4 from rfl,Nat.mul_one,Nat.add_zero] at hf36_0)
        clear hcl36 hcc36 hfr36 hM36
        go_wp2_with (first | ((with_reducible refine gate_store (t:=3) (p:=41) rfl ?_);refine store_event (t:=3) (p:=41) (v:=?vo_w37) (w1:=(wr.setCell ⟨go34,(x6_1 : Int).toNat * 4,none⟩ (.int .i64 (wrap64 (((rd_T47 x5_1 x6_1).f0) - 2))))) ?hg ?ho ?hn ?hr ?_;(case ho=>rfl);(case hg=>rfl);(case hn=>rfl);(case hr=>first | (go_simp;done) | (go_simp;rfl));intro w37 hw;have hg : wr.grownBy w37 (some go34):=(by rw [hw];exact HP36.2);have hp_ : Kd.R k47 47 w37 w.heap.size (fun _=>True) (.slice (some ⟨go34,0,none⟩) x5_1.length co35) y19:=(by rw [hw,Ny19.out];exact HP36.1);clear HP36;have n0_:=a0_ (hp_);have n1_:=a0_ (Kd.R_over' (v:=(.slice (some ⟨go34,0,none⟩) x5_1.length co35)) (rr_ Z7.out) (Kd.R_typed HO_5.out) (by decide) hg);have n2_:=a0_ (blk_grown (bb_ BK1.out) hg (Kd.R_ne HO_5.out BK1.out (by decide)));have n3_:=a0_ (blk_grown (bb_ BK6.out) hg (Kd.R_ne HO_5.out BK6.out (by decide)));have n4_:=a0_ (IsS81.grown is0_ hg (IsS81.own_ne HI0.out HO_5.out (by decide)));have n5_:=a0_ ((by rw [hw];exact below_set (HB.out) (Nat.le_trans HL.out GB34.out) : Below w0.heap.size w0 w37));have n6_:=a0_ (KeepBut.trans (w:=w) hk_ (KeepBut.of_grown hg g) (Kd.R_base2 HO_5.out));clear HO_5 Z7;clear BK1 BK6;clear HI0 HB HK;have HO_5:=n0_;have Z7:=n1_;have BK1:=n2_;have BK6:=n3_;have HI0:=n4_;have HB:=n5_;have HK:=n6_;clear n0_ n1_ n2_ n3_ n4_ n5_ n6_;clear hg hw hp_))
        go_roundg k1
        case measure=>have:=HK1.out;omega
        case rel=>exact ⟨(y19),(wrap64 (x6_1 + 1)),(by first | rfl | (simp;done) | (simp [*];done)),H',⟨by have:=HK1.out;omega⟩,⟨by (with_reducible repeat (first | apply Kd.R_alloc | apply Kd.R_drewN | apply Kd.R_drew));exact HO_5.out⟩,⟨by (with_reducible repeat (first | apply Kd.R_alloc | apply Kd.R_drewN | apply Kd.R_drew));exact Z7.out⟩,⟨by (with_reducible repeat (first | refine blk_drewN ?_ _ | refine blk_drew ?_ | refine blk_alloc ?_ _));exact BK1.out⟩,⟨by (with_reducible repeat (first | refine blk_drewN ?_ _ | refine blk_drew ?_ | refine blk_alloc ?_ _));exact BK6.out⟩,⟨is0_⟩,⟨hk_⟩,⟨hbi0_⟩⟩
       ·rw [if_neg c33] at H
        exact absurd H (by simp)
      ·rw [if_neg c32] at H
       have c32b0 : decide (x6_1 < (x5_1.length : Int)) = false:=decide_eq_false c32
       clear c32
       have H':=a0_ H
       clear H
       obtain ⟨Ao38,co38,eo38⟩:=Kd.R_slice HO_5.out
       subst eo38
       go_wp2
       go_meet
       case rel=>exact ⟨_,(x5_1),(t17),H',⟨by have:=HK1.out;first | omega | exact Nat.le_refl _⟩,⟨by (with_reducible repeat (first | apply Kd.R_alloc | apply Kd.R_drewN | apply Kd.R_drew));exact HO_5.out⟩,⟨by (with_reducible repeat (first | apply Kd.R_alloc | apply Kd.R_drewN | apply Kd.R_drew));exact Z7.out⟩,⟨by (with_reducible repeat (first | refine blk_drewN ?_ _ | refine blk_drew ?_ | refine blk_alloc ?_ _));exact BK1.out⟩,⟨by (with_reducible repeat (first | refine blk_drewN ?_ _ | refine blk_drew ?_ | refine blk_alloc ?_ _));exact BK6.out⟩,⟨is0_⟩,⟨hk_⟩,⟨hbi0_⟩⟩
   ·rw [if_neg c26] at H
    have c26b0 : decide (16 < (t10.length : Int)) = false:=decide_eq_false c26
    have c26b1 : decide (16 < t10.length) = false:=decide_eq_false (by omega)
    clear c26
    (first | rw [c26b0] | (simp only [i64_w,i32_w];rw [c26b0]) | skip)
    have H':=a0_ H
    clear H
    go_wp2
    go_meet
    case rel=>exact ⟨_,(t10),(t13),H',⟨by first | omega | exact Nat.le_refl _⟩,⟨by (with_reducible repeat (first | apply Kd.R_alloc | apply Kd.R_drewN | apply Kd.R_drew));exact HO12.out⟩,⟨by (with_reducible repeat (first | apply Kd.R_alloc | apply Kd.R_drewN | apply Kd.R_drew));exact HO4.out⟩,⟨by (with_reducible repeat (first | refine blk_drewN ?_ _ | refine blk_drew ?_ | refine blk_alloc ?_ _));exact BK1.out⟩,⟨by (with_reducible repeat (first | refine blk_drewN ?_ _ | refine blk_drew ?_ | refine blk_alloc ?_ _));exact BK6.out⟩,⟨is0_⟩,⟨hk_⟩,⟨hbi0_⟩⟩
  case rest =>
   clear HC16
   try clear c1
   try clear p1
   try clear q1
   try clear hx1
   try clear c2
   try clear p2
   try clear c3
   try clear c3b0
   try clear c3b1
   try clear c3b2
   try clear p3
   try clear q3
   try clear hx3
   try clear hf3
   try clear c4
   try clear c6
   try clear p6
   try clear c8
   try clear c9
   try clear c13
   try clear p18
   try clear q18
   try clear hx18
   try clear c21
   try clear c22
   try clear c26
   try clear c26b0
   try clear c26b1
   try clear c28
   try clear c29
   try clear c32
   try clear c32b0
   try clear c33
   try clear c33b0
   try clear c34
   try clear p34
   try clear q34
   try clear hx34
   try clear hf34
   try clear c36
   try clear hx36
   try clear hf36
   try clear hcz10_0
   try clear hcz14_0
   try clear hcz23_0
   try clear hcz30_0
   try clear hfz10_0
   try clear hfz14_0
   try clear hfz23_0
   try clear hfz30_0
   try clear hx18_0
   try clear hx18_1
   try clear hx18_2
   try clear hx18_3
   try clear hx34_0
   try clear hx34_1
   try clear hx34_2
   try clear hx34_3
   try clear hx36_0
   try clear p18
   try clear p2
   try clear p34
   try clear q18
   try clear q34
   obtain ⟨kq,x5_15,x1001_15,HA,HJ15,HO_5,Z7,BK1,BK6,HI0,HK,HB⟩:=hcut
   cases kq with
   | zero=>exact absurd HA.out (by simp [spec_someGroup.j1])
   | succ kj15 =>
    have H:=HA.out
    clear HA
    simp only [spec_someGroup.j1] at H
    replace H:=Option.bind_eq_some_iff.mp H
    obtain ⟨⟨t20,t21⟩,A390,H⟩:=H
    try dsimp only at H
    have A39:=a0_ A390
    clear A390
    replace H:=Option.bind_eq_some_iff.mp H
    obtain ⟨⟨t22,t23⟩,A400,H⟩:=H
    try dsimp only at H
    have A40:=a0_ A400
    clear A400
    by_cases c41 : t22 = 0
    ·rw [if_pos c41] at H
     have c41b0 : (t22 == 0) = true:=beq_iff_eq.mpr c41
     have c41b1 : (t22 != 0) = false:=bne_eq_false_iff_eq.mpr c41
     clear c41
     obtain ⟨y24,hy24⟩ : ∃ y_ : List Int,y_ = (([(-1),6,0,1] : List Int)):=⟨_,rfl⟩
     replace H : ((spec_reader_one.f kj15 s0_0 t23 y24).bind fun bt27=>(if 0 ≤ t20 then (if t20 < (x5_15.length : Int) then (some (t2,(x5_15.set (t20 : Int).toNat (⟨bt27.1,(rd_T47 x5_15 t20).f1,(rd_T47 x5_15 t20).f2,(rd_T47 x5_15 t20).f3⟩ : S47)),bt27.2)) else (none)) else (none))) = some (r1,r2,r3):=by first | (rw [hy24];with_reducible exact H) | (have H2_:=(Option.bind_some _ _).symm.trans H;rw [hy24];with_reducible exact H2_) | (have H2_:=(Option.bind_some _ _).symm.trans H;with_reducible exact H2_) | with_reducible exact H | (rw [hy24];exact H) | exact H
     have Ny24:=a0_ hy24
     clear hy24
     replace H:=Option.bind_eq_some_iff.mp H
     obtain ⟨⟨t27,t28⟩,A420,H⟩:=H
     try dsimp only at H
     have A42:=a0_ A420
     clear A420
     by_cases c43 : 0 ≤ t20
     ·rw [if_pos c43] at H
      have c43b0 : decide (0 ≤ t20) = true:=decide_eq_true c43
      clear c43
      by_cases c44 : t20 < (x5_15.length : Int)
      ·rw [if_pos c44] at H
       have c44b0 : decide (t20 < (x5_15.length : Int)) = true:=decide_eq_true c44
       clear c44
       obtain ⟨y29,hy29⟩ : ∃ y_ : List (S47),y_ = (x5_15.set (t20 : Int).toNat (⟨t27,(rd_T47 x5_15 t20).f1,(rd_T47 x5_15 t20).f2,(rd_T47 x5_15 t20).f3⟩ : S47)):=⟨_,rfl⟩
       replace H : (some (t2,y29,t28)) = some (r1,r2,r3):=by first | (rw [hy29];with_reducible exact H) | (have H2_:=(Option.bind_some _ _).symm.trans H;rw [hy29];with_reducible exact H2_) | (have H2_:=(Option.bind_some _ _).symm.trans H;with_reducible exact H2_) | with_reducible exact H | (rw [hy29];exact H) | exact H
       have Ny29:=a0_ hy29
       clear hy29
       simp only [Option.some.injEq,Prod.mk.injEq] at H
       obtain ⟨rfl,rfl,rfl⟩:=H
       obtain ⟨Ao46,co46,eo46⟩:=Kd.R_slice HO_5.out
       subst eo46
       go_wp2_with (first | ((with_reducible refine gate_callee (f:=63) rfl ?_);refine goesL_ (some 45) rfl rfl Try.func63 (by kernel_rfl) rfl #[.pointer (some ⟨g,0,none⟩),.int .i64 (x5_15.length : Int)] rfl lm_ ?_;(with_reducible refine (spec_reader_pick.calls kj15 g s0_0 x1001_15 (x5_15.length : Int) t20 t21 w0 _ ?side1 ?side2 A39.out).mono ?_);(case side1=>exact is0_);(case side2=>exact hbi0_);rintro e w47 ⟨rfl,hi,hb,hk⟩;refine ⟨_,rfl,?_⟩;replace HO_5:=a0_ (Kd.R_mono (Kd.R_keep (IsS81.apart (is0_ : IsS81 w0 _ g s0_0 x1001_15) (rr_ HO_5.out) (by decide)) hk (fun _ h=>h.2)) (fun _ h=>h.1));replace Z7:=a0_ (Kd.R_mono (Kd.R_keep (IsS81.apart (is0_ : IsS81 w0 _ g s0_0 x1001_15) (rr_ Z7.out) (by decide)) hk (fun _ h=>h.2)) (fun _ h=>h.1));replace BK1:=kk_ hk BK1 NB1_0;replace BK6:=kk_ hk BK6 NB6_0;replace HK:=a0_ (KeepBut.trans (w:=w) hk_ hk (.inl rfl));replace HI0:=a0_ (hi);replace HB:=a0_ (hb);(try clear hb);(try clear hb2);(try clear hk);(try clear hi)) | ((with_reducible refine gate_callee (f:=63) rfl ?_);refine goesL_ (some 47) rfl rfl Try.func63 (by kernel_rfl) rfl #[.pointer (some ⟨g,0,none⟩),.int .i64 24] rfl lm_ ?_;(with_reducible refine (spec_reader_pick.calls kj15 g s0_0 t21 24 t22 t23 w0 _ ?side1 ?side2 A40.out).mono ?_);(case side1=>exact is0_);(case side2=>exact hbi0_);rintro e w48 ⟨rfl,hi,hb,hk⟩;refine ⟨_,rfl,?_⟩;replace HO_5:=a0_ (Kd.R_mono (Kd.R_keep (IsS81.apart (is0_ : IsS81 w0 _ g s0_0 t21) (rr_ HO_5.out) (by decide)) hk (fun _ h=>h.2)) (fun _ h=>h.1));replace Z7:=a0_ (Kd.R_mono (Kd.R_keep (IsS81.apart (is0_ : IsS81 w0 _ g s0_0 t21) (rr_ Z7.out) (by decide)) hk (fun _ h=>h.2)) (fun _ h=>h.1));replace BK1:=kk_ hk BK1 NB1_0;replace BK6:=kk_ hk BK6 NB6_0;replace HK:=a0_ (KeepBut.trans (w:=w) hk_ hk (.inl rfl));replace HI0:=a0_ (hi);replace HB:=a0_ (hb);(try clear hb);(try clear hb2);(try clear hk);(try clear hi)) | ((with_reducible refine gate_dst (N:=53) rfl ?_);refine Kd.R_lit (Kd.int .i64) _ 3 ?hg (N:=53) ?hd (xs:=([(-1),6,0,1] : List Int)) (inner:=[.int .i64 (-1),.int .i64 6,.int .i64 0,.int .i64 1]) (ok:=fun _=>True) (okp:=fun _=>True) ?hr ?hp (fun _ hk=>hk) trivial (Below.refl _ _) (Nat.le_refl _) (by simp) ?_;(case hd=>rfl);(case hg=>rfl);(case hr=>first | (go_simp;done) | (go_simp;rfl));(case hp=>exact (Reps.one (show Kd.M (Kd.int .i64) _ _ _ (-1) [.int .i64 (-1)] from rfl) (Reps.one (show Kd.M (Kd.int .i64) _ _ _ 6 [.int .i64 6] from rfl) (Reps.one (show Kd.M (Kd.int .i64) _ _ _ 0 [.int .i64 0] from rfl) (Reps.one (show Kd.M (Kd.int .i64) _ _ _ 1 [.int .i64 1] from rfl) (Reps.none _ _))))));intro v25 w49 ho50 hb hg_ hnew_;clear hg_ hnew_;(first | rw [← Ny24.out] at ho50 | (simp only [Int.reduceToNat] at ho50;rw [← Ny24.out] at ho50));have n0_:=rb_ HO_5 hb;have n1_:=rb_ Z7 hb;have n2_:=a0_ (Kd.R_lower ho50 (keep_size (w:=w) (g:=g) (row:=none) hk_));have n3_:=kb_ BK1 hb;have n4_:=kb_ BK6 hb;have n5_:=a0_ (IsS81.below is0_ hb);have n6_:=a0_ (KeepBut.trans (w:=w) hk_ (KeepBut.of_below hb g none) (.inl rfl));have n7_:=a0_ (below_step hbi0_ hb);clear HO_5 Z7;clear BK1 BK6;clear HI0 HK HB;have HO_5:=n0_;have Z7:=n1_;have HO26:=n2_;have BK1:=n3_;have BK6:=n4_;have HI0:=n5_;have HK:=n6_;have HB:=n7_;clear n0_ n1_ n2_ n3_ n4_ n5_ n6_ n7_;clear hb ho50;obtain ⟨Ao51,co51,eo51⟩:=Kd.R_slice HO26.out;subst eo51) | ((with_reducible refine gate_callee (f:=64) rfl ?_);refine goesL_ (some 54) rfl rfl Try.func64 (by kernel_rfl) rfl #[.pointer (some ⟨g,0,none⟩),.slice Ao51 y24.length co51] rfl lm_ ?_;(with_reducible refine (spec_reader_one.calls kj15 g s0_0 t23 _ _ y24 t27 t28 w0 _ ?side1 ?side2 ?side3 ?side4 ?side5 A42.out).mono ?_);(case side1=>exact is0_);(case side2=>exact hbi0_);(case side3=>exact cc_ (Kd.R_reads' HO26.out).2.2);(case side4=>exact (Kd.R_reads' HO26.out).2.1);(case side5=>exact far_slice (IsS81.own_ne HI0.out HO26.out (by decide)));rintro e w52 ⟨rfl,hi,hb,hk⟩;refine ⟨_,rfl,?_⟩;replace HO_5:=a0_ (Kd.R_mono (Kd.R_keep (IsS81.apart (is0_ : IsS81 w0 _ g s0_0 t23) (rr_ HO_5.out) (by decide)) hk (fun _ h=>h.2)) (fun _ h=>h.1));replace Z7:=a0_ (Kd.R_mono (Kd.R_keep (IsS81.apart (is0_ : IsS81 w0 _ g s0_0 t23) (rr_ Z7.out) (by decide)) hk (fun _ h=>h.2)) (fun _ h=>h.1));replace BK1:=kk_ hk BK1 NB1_0;replace BK6:=kk_ hk BK6 NB6_0;replace HO26:=a0_ (Kd.R_mono (Kd.R_keep (IsS81.apart (is0_ : IsS81 w0 _ g s0_0 t23) (rr_ HO26.out) (by decide)) hk (fun _ h=>h.2)) (fun _ h=>h.1));replace HK:=a0_ (KeepBut.trans (w:=w) hk_ hk (.inl rfl));replace HI0:=a0_ (hi);replace HB:=a0_ (hb);(try clear hb);have p45 : 0 ≤ (t20 : Int):=of_decide_eq_true (by first | (with_reducible assumption) | assumption);have q45 : (t20 : Int) < ((x5_15.length : Int) : Int):=of_decide_eq_true (by first | (with_reducible assumption) | assumption);obtain ⟨go45,co45,eo45,gb45,gl45,cl45,HG45⟩:=Kd.R_form HO_5.out (by omega);(first | cases eo45 | (injection eo45 with ea_ en_ ec_;(first | subst ea_ | (injection ea_ with ea_;subst ea_));subst ec_;clear en_));have GB45:=a0_ gb45;have GG45:=a0_ HG45;clear gb45 gl45 HG45;obtain ⟨ce45,hcl45,hM45,hcc45,hfr45⟩:=Kd.R_elem HO_5.out z47 (t20 : Int) p45 q45;obtain rfl:=k47_openM hM45;have hx45_0 : w52.cell? ⟨go45,(t20 : Int).toNat * 4,none⟩ = some (.int .i64 ((rd_T47 x5_15 t20).f0)):=hcc45 0 _ rfl;have hx45_1 : w52.cell? ⟨go45,(t20 : Int).toNat * 4 + 1,none⟩ = some (.bool ((rd_T47 x5_15 t20).f1)):=hcc45 1 _ rfl;have hx45_2 : w52.cell? ⟨go45,(t20 : Int).toNat * 4 + 2,none⟩ = some (.int .i64 ((rd_T47 x5_15 t20).f2)):=hcc45 2 _ rfl;have hx45_3 : w52.cell? ⟨go45,(t20 : Int).toNat * 4 + 3,none⟩ = some (.int .i64 ((rd_T47 x5_15 t20).f3)):=hcc45 3 _ rfl;have hf45_0 : w52.frozen? ⟨go45,(t20 : Int).toNat * 4,none⟩ = false:=hfr45 0;have hf45_1 : w52.frozen? ⟨go45,(t20 : Int).toNat * 4 + 1,none⟩ = false:=hfr45 1;have hf45_2 : w52.frozen? ⟨go45,(t20 : Int).toNat * 4 + 2,none⟩ = false:=hfr45 2;have hf45_3 : w52.frozen? ⟨go45,(t20 : Int).toNat * 4 + 3,none⟩ = false:=hfr45 3;clear hcl45 hcc45 hfr45 hM45;replace p45:=eq_true p45;replace q45:=eq_true q45;have HX53:=a0_ (show Kd.R k47 47 w52 w.heap.size (fun _=>True) (.slice (some ⟨go45,0,none⟩) x5_15.length co46) x5_15 from (rr_ HO_5.out));obtain ⟨ce53,hcl53,hM53,hcc53,hfr53⟩:=Kd.R_elem HX53.out z47 (t20 : Int) (of_decide_eq_true (by first | (with_reducible assumption) | assumption)) (by have h_ : (t20 : Int) < ((x5_15.length : Int) : Int):=of_decide_eq_true (by first | (with_reducible assumption) | assumption);first | exact h_ | (have e_:=(Kd.R_reads' HO_5.out).1;omega) | simpa using h_);obtain rfl:=k47_openM hM53;have HP53:=Kd.R_seg HX53.out (t20 : Int) (of_decide_eq_true (by first | (with_reducible assumption) | assumption)) (by have h_ : (t20 : Int) < ((x5_15.length : Int) : Int):=of_decide_eq_true (by first | (with_reducible assumption) | assumption);first | exact h_ | (have e_:=(Kd.R_reads' HO_5.out).1;omega) | simpa using h_) (seg:=[.int .i64 t27]) (j:=0) hcl53 hcc53 (show 1 ≤ 4 from by decide) (x':=(⟨t27,(rd_T47 x5_15 t20).f1,(rd_T47 x5_15 t20).f2,(rd_T47 x5_15 t20).f3⟩ : S47)) (k47_mkM _ _ _ (⟨t27,(rd_T47 x5_15 t20).f1,(rd_T47 x5_15 t20).f2,(rd_T47 x5_15 t20).f3⟩ : S47) ) (fun _ hk=>hk);have hx53_0:=hcc53 0 _ rfl;(try simp only [show (k47).sz = 4 from rfl,Nat.mul_one,Nat.add_zero] at hx53_0);have hf53_0:=hfr53 0;(try simp only [show (k47).sz = 4 from rfl,Nat.mul_one,Nat.add_zero] at hf53_0);clear hcl53 hcc53 hfr53 hM53) | ((with_reducible refine gate_store (t:=3) (p:=56) rfl ?_);refine store_event (t:=3) (p:=56) (v:=?vo_w54) (w1:=(w52.setCell ⟨go45,(t20 : Int).toNat * 4,none⟩ (.int .i64 t27))) ?hg ?ho ?hn ?hr ?_;(case ho=>rfl);(case hg=>rfl);(case hn=>rfl);(case hr=>first | (go_simp;done) | (go_simp;rfl));intro w54 hw;have hg : w52.grownBy w54 (some go45):=(by rw [hw];exact HP53.2);have hp_ : Kd.R k47 47 w54 w.heap.size (fun _=>True) (.slice (some ⟨go45,0,none⟩) x5_15.length co46) y29:=(by rw [hw,Ny29.out];exact HP53.1);clear HP53;have n0_:=a0_ (hp_);have n1_:=a0_ (Kd.R_over' (v:=(.slice (some ⟨go45,0,none⟩) x5_15.length co46)) (rr_ Z7.out) (Kd.R_typed HO_5.out) (by decide) hg);have n2_:=a0_ (blk_grown (bb_ BK1.out) hg (Kd.R_ne HO_5.out BK1.out (by decide)));have n3_:=a0_ (blk_grown (bb_ BK6.out) hg (Kd.R_ne HO_5.out BK6.out (by decide)));have n4_:=a0_ (IsS81.grown is0_ hg (IsS81.own_ne HI0.out HO_5.out (by decide)));have n5_:=a0_ (Kd.R_over' (v:=(.slice (some ⟨go45,0,none⟩) x5_15.length co46)) (rr_ HO26.out) (Kd.R_typed HO_5.out) (by decide) hg);have n6_:=a0_ ((by rw [hw];exact below_set (HB.out) (Nat.le_trans HL.out GB45.out) : Below w0.heap.size w0 w54));have n7_:=a0_ (KeepBut.trans (w:=w) hk_ (KeepBut.of_grown hg g) (Kd.R_base2 HO_5.out));clear HO_5 Z7;clear BK1 BK6;clear HI0 HO26;clear HB HK;have HO_5:=n0_;have Z7:=n1_;have BK1:=n2_;have BK6:=n3_;have HI0:=n4_;have HO26:=n5_;have HB:=n6_;have HK:=n7_;clear n0_ n1_ n2_ n3_ n4_ n5_ n6_ n7_;clear hg hw hp_;have hnb55:=NB6_1.out;have hnc55:=NB1_6.out;have hnb56:=NB6_0.out;have hnc56:=NB0_6.out;have hcz57_0 : w54.cell? ⟨gb6,0,none⟩ = some (.slice Ao20 t2.length co20):=(blk_cell BK6.out 0).trans rfl;have hfz57_0:=blk_frozen BK6.out 0;have hnb58:=NB1_0.out;have hnc58:=NB0_1.out;have hcz59_0 : w54.cell? ⟨gb1,0,none⟩ = some (.slice none 0 0):=(blk_cell BK1.out 0).trans rfl;have hfz59_0:=blk_frozen BK1.out 0))
       refine bodyPost_ret (results_ct rfl _ _ gb1 25 #[.slice Ao20 t2.length co20] (0,0) _ rfl (by (with_reducible repeat (first | refine blk_drewN ?_ _ | refine blk_drew ?_ | refine blk_alloc ?_ _));refine blk_put (cs:=#[.slice none 0 0]) ?_ 0 _ rfl;(with_reducible repeat (first | refine blk_drewN ?_ _ | refine blk_drew ?_ | refine blk_alloc ?_ _));exact BK1.out) Try.underlying25 rfl (by kernel_rfl)) rfl ?_
       exact ⟨_,_,by first | rfl | (simp [errW_none,errW_some] <;> rfl) | (simp [*,errW_none,errW_some] <;> rfl),by (with_reducible repeat (first | apply Kd.R_alloc | apply Kd.R_drewN | apply Kd.R_drew));exact Kd.R_mono (Kd.R_far (p:=⟨gb1,0,none⟩) (Kd.R_types Z7.out BK1.out (by decide)) (fun _ hk=>hk.2) (.slice Ao20 t2.length co20)) (fun _ hk=>trivial),by (with_reducible repeat (first | apply Kd.R_alloc | apply Kd.R_drewN | apply Kd.R_drew));exact Kd.R_mono (Kd.R_far (p:=⟨gb1,0,none⟩) (Kd.R_types HO_5.out BK1.out (by decide)) (fun _ hk=>hk.2) (.slice Ao20 t2.length co20)) (fun _ hk=>trivial),is0_,hbi0_,hk_⟩
      ·rw [if_neg c44] at H
       exact absurd H (by simp)
     ·rw [if_neg c43] at H
      exact absurd H (by simp)
    ·rw [if_neg c41] at H
     have c41b0 : (t22 == 0) = false:=beq_eq_false_iff_ne.mpr c41
     have c41b1 : (t22 != 0) = true:=bne_iff_ne.mpr c41
     by_cases c60 : t22 = 1
     ·rw [if_pos c60] at H
      have c60b0 : (t22 == 1) = true:=beq_iff_eq.mpr c60
      have c60b1 : (t22 != 1) = false:=bne_eq_false_iff_eq.mpr c60
      clear c60
      obtain ⟨y30,hy30⟩ : ∃ y_ : List Int,y_ = (([(-1),8,1] : List Int)):=⟨_,rfl⟩
      replace H : ((spec_reader_one.f kj15 s0_0 t23 y30).bind fun bt33=>(if 0 ≤ t20 then (if t20 < (x5_15.length : Int) then (some (t2,(x5_15.set (t20 : Int).toNat (⟨(rd_T47 x5_15 t20).f0,(rd_T47 x5_15 t20).f1,bt33.1,(rd_T47 x5_15 t20).f3⟩ : S47)),bt33.2)) else (none)) else (none))) = some (r1,r2,r3):=by first | (rw [hy30];with_reducible exact H) | (have H2_:=(Option.bind_some _ _).symm.trans H;rw [hy30];with_reducible exact H2_) | (have H2_:=(Option.bind_some _ _).symm.trans H;with_reducible exact H2_) | with_reducible exact H | (rw [hy30];exact H) | exact H
      have Ny30:=a0_ hy30
      clear hy30
      replace H:=Option.bind_eq_some_iff.mp H
      obtain ⟨⟨t33,t34⟩,A610,H⟩:=H
      try dsimp only at H
      have A61:=a0_ A610
      clear A610
      by_cases c62 : 0 ≤ t20
      ·rw [if_pos c62] at H
       have c62b0 : decide (0 ≤ t20) = true:=decide_eq_true c62
       clear c62
       by_cases c63 : t20 < (x5_15.length : Int)
       ·rw [if_pos c63] at H
        have c63b0 : decide (t20 < (x5_15.length : Int)) = true:=decide_eq_true c63
        clear c63
        obtain ⟨y35,hy35⟩ : ∃ y_ : List (S47),y_ = (x5_15.set (t20 : Int).toNat (⟨(rd_T47 x5_15 t20).f0,(rd_T47 x5_15 t20).f1,t33,(rd_T47 x5_15 t20).f3⟩ : S47)):=⟨_,rfl⟩
        replace H : (some (t2,y35,t34)) = some (r1,r2,r3):=by first | (rw [hy35];with_reducible exact H) | (have H2_:=(Option.bind_some _ _).symm.trans H;rw [hy35];with_reducible exact H2_) | (have H2_:=(Option.bind_some _ _).symm.trans H;with_reducible exact H2_) | with_reducible exact H | (rw [hy35];exact H) | exact H
        have Ny35:=a0_ hy35
        clear hy35
        simp only [Option.some.injEq,Prod.mk.injEq] at H
        obtain ⟨rfl,rfl,rfl⟩:=H
        obtain ⟨Ao65,co65,eo65⟩:=Kd.R_slice HO_5.out
        subst eo65
        go_wp2_with (first | ((with_reducible refine gate_callee (f:=63) rfl ?_);refine goesL_ (some 45) rfl rfl Try.func63 (by kernel_rfl) rfl #[.pointer (some ⟨g,0,none⟩),.int .i64 (x5_15.length : Int)] rfl lm_ ?_;(with_reducible refine (spec_reader_pick.calls kj15 g s0_0 x1001_15 (x5_15.length : Int) t20 t21 w0 _ ?side1 ?side2 A39.out).mono ?_);(case side1=>exact is0_);(case side2=>exact hbi0_);rintro e w66 ⟨rfl,hi,hb,hk⟩;refine ⟨_,rfl,?_⟩;replace HO_5:=a0_ (Kd.R_mono (Kd.R_keep (IsS81.apart (is0_ : IsS81 w0 _ g s0_0 x1001_15) (rr_ HO_5.out) (by decide)) hk (fun _ h=>h.2)) (fun _ h=>h.1));replace Z7:=a0_ (Kd.R_mono (Kd.R_keep (IsS81.apart (is0_ : IsS81 w0 _ g s0_0 x1001_15) (rr_ Z7.out) (by decide)) hk (fun _ h=>h.2)) (fun _ h=>h.1));replace BK1:=kk_ hk BK1 NB1_0;replace BK6:=kk_ hk BK6 NB6_0;replace HK:=a0_ (KeepBut.trans (w:=w) hk_ hk (.inl rfl));replace HI0:=a0_ (hi);replace HB:=a0_ (hb);(try clear hb);(try clear hb2);(try clear hk);(try clear hi)) | ((with_reducible refine gate_callee (f:=63) rfl ?_);refine goesL_ (some 47) rfl rfl Try.func63 (by kernel_rfl) rfl #[.pointer (some ⟨g,0,none⟩),.int .i64 24] rfl lm_ ?_;(with_reducible refine (spec_reader_pick.calls kj15 g s0_0 t21 24 t22 t23 w0 _ ?side1 ?side2 A40.out).mono ?_);(case side1=>exact is0_);(case side2=>exact hbi0_);rintro e w67 ⟨rfl,hi,hb,hk⟩;refine ⟨_,rfl,?_⟩;replace HO_5:=a0_ (Kd.R_mono (Kd.R_keep (IsS81.apart (is0_ : IsS81 w0 _ g s0_0 t21) (rr_ HO_5.out) (by decide)) hk (fun _ h=>h.2)) (fun _ h=>h.1));replace Z7:=a0_ (Kd.R_mono (Kd.R_keep (IsS81.apart (is0_ : IsS81 w0 _ g s0_0 t21) (rr_ Z7.out) (by decide)) hk (fun _ h=>h.2)) (fun _ h=>h.1));replace BK1:=kk_ hk BK1 NB1_0;replace BK6:=kk_ hk BK6 NB6_0;replace HK:=a0_ (KeepBut.trans (w:=w) hk_ hk (.inl rfl));replace HI0:=a0_ (hi);replace HB:=a0_ (hb);(try clear hb);(try clear hb2);(try clear hk);(try clear hi)) | ((with_reducible refine gate_dst (N:=62) rfl ?_);refine Kd.R_lit (Kd.int .i64) _ 3 ?hg (N:=62) ?hd (xs:=([(-1),8,1] : List Int)) (inner:=[.int .i64 (-1),.int .i64 8,.int .i64 1]) (ok:=fun _=>True) (okp:=fun _=>True) ?hr ?hp (fun _ hk=>hk) trivial (Below.refl _ _) (Nat.le_refl _) (by simp) ?_;(case hd=>rfl);(case hg=>rfl);(case hr=>first | (go_simp;done) | (go_simp;rfl));(case hp=>exact (Reps.one (show Kd.M (Kd.int .i64) _ _ _ (-1) [.int .i64 (-1)] from rfl) (Reps.one (show Kd.M (Kd.int .i64) _ _ _ 8 [.int .i64 8] from rfl) (Reps.one (show Kd.M (Kd.int .i64) _ _ _ 1 [.int .i64 1] from rfl) (Reps.none _ _)))));intro v31 w68 ho69 hb hg_ hnew_;clear hg_ hnew_;(first | rw [← Ny30.out] at ho69 | (simp only [Int.reduceToNat] at ho69;rw [← Ny30.out] at ho69));have n0_:=rb_ HO_5 hb;have n1_:=rb_ Z7 hb;have n2_:=a0_ (Kd.R_lower ho69 (keep_size (w:=w) (g:=g) (row:=none) hk_));have n3_:=kb_ BK1 hb;have n4_:=kb_ BK6 hb;have n5_:=a0_ (IsS81.below is0_ hb);have n6_:=a0_ (KeepBut.trans (w:=w) hk_ (KeepBut.of_below hb g none) (.inl rfl));have n7_:=a0_ (below_step hbi0_ hb);clear HO_5 Z7;clear BK1 BK6;clear HI0 HK HB;have HO_5:=n0_;have Z7:=n1_;have HO32:=n2_;have BK1:=n3_;have BK6:=n4_;have HI0:=n5_;have HK:=n6_;have HB:=n7_;clear n0_ n1_ n2_ n3_ n4_ n5_ n6_ n7_;clear hb ho69;obtain ⟨Ao70,co70,eo70⟩:=Kd.R_slice HO32.out;subst eo70) | ((with_reducible refine gate_callee (f:=64) rfl ?_);refine goesL_ (some 63) rfl rfl Try.func64 (by kernel_rfl) rfl #[.pointer (some ⟨g,0,none⟩),.slice Ao70 y30.length co70] rfl lm_ ?_;(with_reducible refine (spec_reader_one.calls kj15 g s0_0 t23 _ _ y30 t33 t34 w0 _ ?side1 ?side2 ?side3 ?side4 ?side5 A61.out).mono ?_);(case side1=>exact is0_);(case side2=>exact hbi0_);(case side3=>exact cc_ (Kd.R_reads' HO32.out).2.2);(case side4=>exact (Kd.R_reads' HO32.out).2.1);(case side5=>exact far_slice (IsS81.own_ne HI0.out HO32.out (by decide)));rintro e w71 ⟨rfl,hi,hb,hk⟩;refine ⟨_,rfl,?_⟩;replace HO_5:=a0_ (Kd.R_mono (Kd.R_keep (IsS81.apart (is0_ : IsS81 w0 _ g s0_0 t23) (rr_ HO_5.out) (by decide)) hk (fun _ h=>h.2)) (fun _ h=>h.1));replace Z7:=a0_ (Kd.R_mono (Kd.R_keep (IsS81.apart (is0_ : IsS81 w0 _ g s0_0 t23) (rr_ Z7.out) (by decide)) hk (fun _ h=>h.2)) (fun _ h=>h.1));replace BK1:=kk_ hk BK1 NB1_0;replace BK6:=kk_ hk BK6 NB6_0;replace HO32:=a0_ (Kd.R_mono (Kd.R_keep (IsS81.apart (is0_ : IsS81 w0 _ g s0_0 t23) (rr_ HO32.out) (by decide)) hk (fun _ h=>h.2)) (fun _ h=>h.1));replace HK:=a0_ (KeepBut.trans (w:=w) hk_ hk (.inl rfl));replace HI0:=a0_ (hi);replace HB:=a0_ (hb);(try clear hb);have p64 : 0 ≤ (t20 : Int):=of_decide_eq_true (by first | (with_reducible assumption) | assumption);have q64 : (t20 : Int) < ((x5_15.length : Int) : Int):=of_decide_eq_true (by first | (with_reducible assumption) | assumption);obtain ⟨go64,co64,eo64,gb64,gl64,cl64,HG64⟩:=Kd.R_form HO_5.out (by omega);(first | cases eo64 | (injection eo64 with ea_ en_ ec_;(first | subst ea_ | (injection ea_ with ea_;subst ea_));subst ec_;clear en_));have GB64:=a0_ gb64;have GG64:=a0_ HG64;clear gb64 gl64 HG64;obtain ⟨ce64,hcl64,hM64,hcc64,hfr64⟩:=Kd.R_elem HO_5.out z47 (t20 : Int) p64 q64;obtain rfl:=k47_openM hM64;have hx64_0 : w71.cell? ⟨go64,(t20 : Int).toNat * 4,none⟩ = some (.int .i64 ((rd_T47 x5_15 t20).f0)):=hcc64 0 _ rfl;have hx64_1 : w71.cell? ⟨go64,(t20 : Int).toNat * 4 + 1,none⟩ = some (.bool ((rd_T47 x5_15 t20).f1)):=hcc64 1 _ rfl;have hx64_2 : w71.cell? ⟨go64,(t20 : Int).toNat * 4 + 2,none⟩ = some (.int .i64 ((rd_T47 x5_15 t20).f2)):=hcc64 2 _ rfl;have hx64_3 : w71.cell? ⟨go64,(t20 : Int).toNat * 4 + 3,none⟩ = some (.int .i64 ((rd_T47 x5_15 t20).f3)):=hcc64 3 _ rfl;have hf64_0 : w71.frozen? ⟨go64,(t20 : Int).toNat * 4,none⟩ = false:=hfr64 0;have hf64_1 : w71.frozen? ⟨go64,(t20 : Int).toNat * 4 + 1,none⟩ = false:=hfr64 1;have hf64_2 : w71.frozen? ⟨go64,(t20 : Int).toNat * 4 + 2,none⟩ = false:=hfr64 2;have hf64_3 : w71.frozen? ⟨go64,(t20 : Int).toNat * 4 + 3,none⟩ = false:=hfr64 3;clear hcl64 hcc64 hfr64 hM64;replace p64:=eq_true p64;replace q64:=eq_true q64;have HX72:=a0_ (show Kd.R k47 47 w71 w.heap.size (fun _=>True) (.slice (some ⟨go64,0,none⟩) x5_15.length co65) x5_15 from (rr_ HO_5.out));obtain ⟨ce72,hcl72,hM72,hcc72,hfr72⟩:=Kd.R_elem HX72.out z47 (t20 : Int) (of_decide_eq_true (by first | (with_reducible assumption) | assumption)) (by have h_ : (t20 : Int) < ((x5_15.length : Int) : Int):=of_decide_eq_true (by first | (with_reducible assumption) | assumption);first | exact h_ | (have e_:=(Kd.R_reads' HO_5.out).1;omega) | simpa using h_);obtain rfl:=k47_openM hM72;have HP72:=Kd.R_seg HX72.out (t20 : Int) (of_decide_eq_true (by first | (with_reducible assumption) | assumption)) (by have h_ : (t20 : Int) < ((x5_15.length : Int) : Int):=of_decide_eq_true (by first | (with_reducible assumption) | assumption);first | exact h_ | (have e_:=(Kd.R_reads' HO_5.out).1;omega) | simpa using h_) (seg:=[.int .i64 t33]) (j:=2) hcl72 hcc72 (show 3 ≤ 4 from by decide) (x':=(⟨(rd_T47 x5_15 t20).f0,(rd_T47 x5_15 t20).f1,t33,(rd_T47 x5_15 t20).f3⟩ : S47)) (k47_mkM _ _ _ (⟨(rd_T47 x5_15 t20).f0,(rd_T47 x5_15 t20).f1,t33,(rd_T47 x5_15 t20).f3⟩ : S47) ) (fun _ hk=>hk);have hx72_2:=hcc72 2 _ rfl;(try simp only [show (k47).sz = 4 from rfl,Nat.mul_one,Nat.add_zero] at hx72_2);have hf72_2:=hfr72 2;(try simp only [show (k47).sz = 4 from rfl,Nat.mul_one,Nat.add_zero] at hf72_2);clear hcl72 hcc72 hfr72 hM72) | ((with_reducible refine gate_store (t:=3) (p:=65) rfl ?_);refine store_event (t:=3) (p:=65) (v:=?vo_w73) (w1:=(w71.setCell ⟨go64,(t20 : Int).toNat * 4 + 2,none⟩ (.int .i64 t33))) ?hg ?ho ?hn ?hr ?_;(case ho=>rfl);(case hg=>rfl);(case hn=>rfl);(case hr=>first | (go_simp;done) | (go_simp;rfl));intro w73 hw;have hg : w71.grownBy w73 (some go64):=(by rw [hw];exact HP72.2);have hp_ : Kd.R k47 47 w73 w.heap.size (fun _=>True) (.slice (some ⟨go64,0,none⟩) x5_15.length co65) y35:=(by rw [hw,Ny35.out];exact HP72.1);clear HP72;have n0_:=a0_ (hp_);have n1_:=a0_ (Kd.R_over' (v:=(.slice (some ⟨go64,0,none⟩) x5_15.length co65)) (rr_ Z7.out) (Kd.R_typed HO_5.out) (by decide) hg);have n2_:=a0_ (blk_grown (bb_ BK1.out) hg (Kd.R_ne HO_5.out BK1.out (by decide)));have n3_:=a0_ (blk_grown (bb_ BK6.out) hg (Kd.R_ne HO_5.out BK6.out (by decide)));have n4_:=a0_ (IsS81.grown is0_ hg (IsS81.own_ne HI0.out HO_5.out (by decide)));have n5_:=a0_ (Kd.R_over' (v:=(.slice (some ⟨go64,0,none⟩) x5_15.length co65)) (rr_ HO32.out) (Kd.R_typed HO_5.out) (by decide) hg);have n6_:=a0_ ((by rw [hw];exact below_set (HB.out) (Nat.le_trans HL.out GB64.out) : Below w0.heap.size w0 w73));have n7_:=a0_ (KeepBut.trans (w:=w) hk_ (KeepBut.of_grown hg g) (Kd.R_base2 HO_5.out));clear HO_5 Z7;clear BK1 BK6;clear HI0 HO32;clear HB HK;have HO_5:=n0_;have Z7:=n1_;have BK1:=n2_;have BK6:=n3_;have HI0:=n4_;have HO32:=n5_;have HB:=n6_;have HK:=n7_;clear n0_ n1_ n2_ n3_ n4_ n5_ n6_ n7_;clear hg hw hp_;have hnb74:=NB6_1.out;have hnc74:=NB1_6.out;have hnb75:=NB6_0.out;have hnc75:=NB0_6.out;have hcz76_0 : w73.cell? ⟨gb6,0,none⟩ = some (.slice Ao20 t2.length co20):=(blk_cell BK6.out 0).trans rfl;have hfz76_0:=blk_frozen BK6.out 0;have hnb77:=NB1_0.out;have hnc77:=NB0_1.out;have hcz78_0 : w73.cell? ⟨gb1,0,none⟩ = some (.slice none 0 0):=(blk_cell BK1.out 0).trans rfl;have hfz78_0:=blk_frozen BK1.out 0))
        refine bodyPost_ret (results_ct rfl _ _ gb1 25 #[.slice Ao20 t2.length co20] (0,0) _ rfl (by (with_reducible repeat (first | refine blk_drewN ?_ _ | refine blk_drew ?_ | refine blk_alloc ?_ _));refine blk_put (cs:=#[.slice none 0 0]) ?_ 0 _ rfl;(with_reducible repeat (first | refine blk_drewN ?_ _ | refine blk_drew ?_ | refine blk_alloc ?_ _));exact BK1.out) Try.underlying25 rfl (by kernel_rfl)) rfl ?_
        exact ⟨_,_,by first | rfl | (simp [errW_none,errW_some] <;> rfl) | (simp [*,errW_none,errW_some] <;> rfl),by (with_reducible repeat (first | apply Kd.R_alloc | apply Kd.R_drewN | apply Kd.R_drew));exact Kd.R_mono (Kd.R_far (p:=⟨gb1,0,none⟩) (Kd.R_types Z7.out BK1.out (by decide)) (fun _ hk=>hk.2) (.slice Ao20 t2.length co20)) (fun _ hk=>trivial),by (with_reducible repeat (first | apply Kd.R_alloc | apply Kd.R_drewN | apply Kd.R_drew));exact Kd.R_mono (Kd.R_far (p:=⟨gb1,0,none⟩) (Kd.R_types HO_5.out BK1.out (by decide)) (fun _ hk=>hk.2) (.slice Ao20 t2.length co20)) (fun _ hk=>trivial),is0_,hbi0_,hk_⟩
       ·rw [if_neg c63] at H
        exact absurd H (by simp)
      ·rw [if_neg c62] at H
       exact absurd H (by simp)
     ·rw [if_neg c60] at H
      have c60b0 : (t22 == 1) = false:=beq_eq_false_iff_ne.mpr c60
      have c60b1 : (t22 != 1) = true:=bne_iff_ne.mpr c60
      by_cases c79 : t22 = 2
      ·rw [if_pos c79] at H
       have c79b0 : (t22 == 2) = true:=beq_iff_eq.mpr c79
       have c79b1 : (t22 != 2) = false:=bne_eq_false_iff_eq.mpr c79
       clear c79
       obtain ⟨y36,hy36⟩ : ∃ y_ : List Int,y_ = (([(-1),100] : List Int)):=⟨_,rfl⟩
       replace H : ((spec_reader_one.f kj15 s0_0 t23 y36).bind fun bt39=>(if 0 ≤ t20 then (if t20 < (x5_15.length : Int) then (some (t2,(x5_15.set (t20 : Int).toNat (⟨(rd_T47 x5_15 t20).f0,(rd_T47 x5_15 t20).f1,(rd_T47 x5_15 t20).f2,bt39.1⟩ : S47)),bt39.2)) else (none)) else (none))) = some (r1,r2,r3):=by first | (rw [hy36];with_reducible exact H) | (have H2_:=(Option.bind_some _ _).symm.trans H;rw [hy36];with_reducible exact H2_) | (have H2_:=(Option.bind_some _ _).symm.trans H;with_reducible exact H2_) | with_reducible exact H | (rw [hy36];exact H) | exact H
       have Ny36:=a0_ hy36
       clear hy36
       replace H:=Option.bind_eq_some_iff.mp H
       obtain ⟨⟨t39,t40⟩,A800,H⟩:=H
       try dsimp only at H
       have A80:=a0_ A800
       clear A800
       by_cases c81 : 0 ≤ t20
       ·rw [if_pos c81] at H
        have c81b0 : decide (0 ≤ t20) = true:=decide_eq_true c81
        clear c81
        by_cases c82 : t20 < (x5_15.length : Int)
        ·rw [if_pos c82] at H
         have c82b0 : decide (t20 < (x5_15.length : Int)) = true:=decide_eq_true c82
         clear c82
         obtain ⟨y41,hy41⟩ : ∃ y_ : List (S47),y_ = (x5_15.set (t20 : Int).toNat (⟨(rd_T47 x5_15 t20).f0,(rd_T47 x5_15 t20).f1,(rd_T47 x5_15 t20).f2,t39⟩ : S47)):=⟨_,rfl⟩
         replace H : (some (t2,y41,t40)) = some (r1,r2,r3):=by first | (rw [hy41];with_reducible exact H) | (have H2_:=(Option.bind_some _ _).symm.trans H;rw [hy41];with_reducible exact H2_) | (have H2_:=(Option.bind_some _ _).symm.trans H;with_reducible exact H2_) | with_reducible exact H | (rw [hy41];exact H) | exact H
         have Ny41:=a0_ hy41
         clear hy41
         simp only [Option.some.injEq,Prod.mk.injEq] at H
         obtain ⟨rfl,rfl,rfl⟩:=H
         obtain ⟨Ao84,co84,eo84⟩:=Kd.R_slice HO_5.out
         subst eo84
         go_wp2_with (first | ((with_reducible refine gate_callee (f:=63) rfl ?_);refine goesL_ (some 45) rfl rfl Try.func63 (by kernel_rfl) rfl #[.pointer (some ⟨g,0,none⟩),.int .i64 (x5_15.length : Int)] rfl lm_ ?_;(with_reducible refine (spec_reader_pick.calls kj15 g s0_0 x1001_15 (x5_15.length : Int) t20 t21 w0 _ ?side1 ?side2 A39.out).mono ?_);(case side1=>exact is0_);(case side2=>exact hbi0_);rintro e w85 ⟨rfl,hi,hb,hk⟩;refine ⟨_,rfl,?_⟩;replace HO_5:=a0_ (Kd.R_mono (Kd.R_keep (IsS81.apart (is0_ : IsS81 w0 _ g s0_0 x1001_15) (rr_ HO_5.out) (by decide)) hk (fun _ h=>h.2)) (fun _ h=>h.1));replace Z7:=a0_ (Kd.R_mono (Kd.R_keep (IsS81.apart (is0_ : IsS81 w0 _ g s0_0 x1001_15) (rr_ Z7.out) (by decide)) hk (fun _ h=>h.2)) (fun _ h=>h.1));replace BK1:=kk_ hk BK1 NB1_0;replace BK6:=kk_ hk BK6 NB6_0;replace HK:=a0_ (KeepBut.trans (w:=w) hk_ hk (.inl rfl));replace HI0:=a0_ (hi);replace HB:=a0_ (hb);(try clear hb);(try clear hb2);(try clear hk);(try clear hi)) | ((with_reducible refine gate_callee (f:=63) rfl ?_);refine goesL_ (some 47) rfl rfl Try.func63 (by kernel_rfl) rfl #[.pointer (some ⟨g,0,none⟩),.int .i64 24] rfl lm_ ?_;(with_reducible refine (spec_reader_pick.calls kj15 g s0_0 t21 24 t22 t23 w0 _ ?side1 ?side2 A40.out).mono ?_);(case side1=>exact is0_);(case side2=>exact hbi0_);rintro e w86 ⟨rfl,hi,hb,hk⟩;refine ⟨_,rfl,?_⟩;replace HO_5:=a0_ (Kd.R_mono (Kd.R_keep (IsS81.apart (is0_ : IsS81 w0 _ g s0_0 t21) (rr_ HO_5.out) (by decide)) hk (fun _ h=>h.2)) (fun _ h=>h.1));replace Z7:=a0_ (Kd.R_mono (Kd.R_keep (IsS81.apart (is0_ : IsS81 w0 _ g s0_0 t21) (rr_ Z7.out) (by decide)) hk (fun _ h=>h.2)) (fun _ h=>h.1));replace BK1:=kk_ hk BK1 NB1_0;replace BK6:=kk_ hk BK6 NB6_0;replace HK:=a0_ (KeepBut.trans (w:=w) hk_ hk (.inl rfl));replace HI0:=a0_ (hi);replace HB:=a0_ (hb);(try clear hb);(try clear hb2);(try clear hk);(try clear hi)) | ((with_reducible refine gate_dst (N:=71) rfl ?_);refine Kd.R_lit (Kd.int .i64) _ 3 ?hg (N:=71) ?hd (xs:=([(-1),100] : List Int)) (inner:=[.int .i64 (-1),.int .i64 100]) (ok:=fun _=>True) (okp:=fun _=>True) ?hr ?hp (fun _ hk=>hk) trivial (Below.refl _ _) (Nat.le_refl _) (by simp) ?_;(case hd=>rfl);(case hg=>rfl);(case hr=>first | (go_simp;done) | (go_simp;rfl));(case hp=>exact (Reps.one (show Kd.M (Kd.int .i64) _ _ _ (-1) [.int .i64 (-1)] from rfl) (Reps.one (show Kd.M (Kd.int .i64) _ _ _ 100 [.int .i64 100] from rfl) (Reps.none _ _))));intro v37 w87 ho88 hb hg_ hnew_;clear hg_ hnew_;(first | rw [← Ny36.out] at ho88 | (simp only [Int.reduceToNat] at ho88;rw [← Ny36.out] at ho88));have n0_:=rb_ HO_5 hb;have n1_:=rb_ Z7 hb;have n2_:=a0_ (Kd.R_lower ho88 (keep_size (w:=w) (g:=g) (row:=none) hk_));have n3_:=kb_ BK1 hb;have n4_:=kb_ BK6 hb;have n5_:=a0_ (IsS81.below is0_ hb);have n6_:=a0_ (KeepBut.trans (w:=w) hk_ (KeepBut.of_below hb g none) (.inl rfl));have n7_:=a0_ (below_step hbi0_ hb);clear HO_5 Z7;clear BK1 BK6;clear HI0 HK HB;have HO_5:=n0_;have Z7:=n1_;have HO38:=n2_;have BK1:=n3_;have BK6:=n4_;have HI0:=n5_;have HK:=n6_;have HB:=n7_;clear n0_ n1_ n2_ n3_ n4_ n5_ n6_ n7_;clear hb ho88;obtain ⟨Ao89,co89,eo89⟩:=Kd.R_slice HO38.out;subst eo89) | ((with_reducible refine gate_callee (f:=64) rfl ?_);refine goesL_ (some 72) rfl rfl Try.func64 (by kernel_rfl) rfl #[.pointer (some ⟨g,0,none⟩),.slice Ao89 y36.length co89] rfl lm_ ?_;(with_reducible refine (spec_reader_one.calls kj15 g s0_0 t23 _ _ y36 t39 t40 w0 _ ?side1 ?side2 ?side3 ?side4 ?side5 A80.out).mono ?_);(case side1=>exact is0_);(case side2=>exact hbi0_);(case side3=>exact cc_ (Kd.R_reads' HO38.out).2.2);(case side4=>exact (Kd.R_reads' HO38.out).2.1);(case side5=>exact far_slice (IsS81.own_ne HI0.out HO38.out (by decide)));rintro e w90 ⟨rfl,hi,hb,hk⟩;refine ⟨_,rfl,?_⟩;replace HO_5:=a0_ (Kd.R_mono (Kd.R_keep (IsS81.apart (is0_ : IsS81 w0 _ g s0_0 t23) (rr_ HO_5.out) (by decide)) hk (fun _ h=>h.2)) (fun _ h=>h.1));replace Z7:=a0_ (Kd.R_mono (Kd.R_keep (IsS81.apart (is0_ : IsS81 w0 _ g s0_0 t23) (rr_ Z7.out) (by decide)) hk (fun _ h=>h.2)) (fun _ h=>h.1));replace BK1:=kk_ hk BK1 NB1_0;replace BK6:=kk_ hk BK6 NB6_0;replace HO38:=a0_ (Kd.R_mono (Kd.R_keep (IsS81.apart (is0_ : IsS81 w0 _ g s0_0 t23) (rr_ HO38.out) (by decide)) hk (fun _ h=>h.2)) (fun _ h=>h.1));replace HK:=a0_ (KeepBut.trans (w:=w) hk_ hk (.inl rfl));replace HI0:=a0_ (hi);replace HB:=a0_ (hb);(try clear hb);have p83 : 0 ≤ (t20 : Int):=of_decide_eq_true (by first | (with_reducible assumption) | assumption);have q83 : (t20 : Int) < ((x5_15.length : Int) : Int):=of_decide_eq_true (by first | (with_reducible assumption) | assumption);obtain ⟨go83,co83,eo83,gb83,gl83,cl83,HG83⟩:=Kd.R_form HO_5.out (by omega);(first | cases eo83 | (injection eo83 with ea_ en_ ec_;(first | subst ea_ | (injection ea_ with ea_;subst ea_));subst ec_;clear en_));have GB83:=a0_ gb83;have GG83:=a0_ HG83;clear gb83 gl83 HG83;obtain ⟨ce83,hcl83,hM83,hcc83,hfr83⟩:=Kd.R_elem HO_5.out z47 (t20 : Int) p83 q83;obtain rfl:=k47_openM hM83;have hx83_0 : w90.cell? ⟨go83,(t20 : Int).toNat * 4,none⟩ = some (.int .i64 ((rd_T47 x5_15 t20).f0)):=hcc83 0 _ rfl;have hx83_1 : w90.cell? ⟨go83,(t20 : Int).toNat * 4 + 1,none⟩ = some (.bool ((rd_T47 x5_15 t20).f1)):=hcc83 1 _ rfl;have hx83_2 : w90.cell? ⟨go83,(t20 : Int).toNat * 4 + 2,none⟩ = some (.int .i64 ((rd_T47 x5_15 t20).f2)):=hcc83 2 _ rfl;have hx83_3 : w90.cell? ⟨go83,(t20 : Int).toNat * 4 + 3,none⟩ = some (.int .i64 ((rd_T47 x5_15 t20).f3)):=hcc83 3 _ rfl;have hf83_0 : w90.frozen? ⟨go83,(t20 : Int).toNat * 4,none⟩ = false:=hfr83 0;have hf83_1 : w90.frozen? ⟨go83,(t20 : Int).toNat * 4 + 1,none⟩ = false:=hfr83 1;have hf83_2 : w90.frozen? ⟨go83,(t20 : Int).toNat * 4 + 2,none⟩ = false:=hfr83 2;have hf83_3 : w90.frozen? ⟨go83,(t20 : Int).toNat * 4 + 3,none⟩ = false:=hfr83 3;clear hcl83 hcc83 hfr83 hM83;replace p83:=eq_true p83;replace q83:=eq_true q83;have HX91:=a0_ (show Kd.R k47 47 w90 w.heap.size (fun _=>True) (.slice (some ⟨go83,0,none⟩) x5_15.length co84) x5_15 from (rr_ HO_5.out));obtain ⟨ce91,hcl91,hM91,hcc91,hfr91⟩:=Kd.R_elem HX91.out z47 (t20 : Int) (of_decide_eq_true (by first | (with_reducible assumption) | assumption)) (by have h_ : (t20 : Int) < ((x5_15.length : Int) : Int):=of_decide_eq_true (by first | (with_reducible assumption) | assumption);first | exact h_ | (have e_:=(Kd.R_reads' HO_5.out).1;omega) | simpa using h_);obtain rfl:=k47_openM hM91;have HP91:=Kd.R_seg HX91.out (t20 : Int) (of_decide_eq_true (by first | (with_reducible assumption) | assumption)) (by have h_ : (t20 : Int) < ((x5_15.length : Int) : Int):=of_decide_eq_true (by first | (with_reducible assumption) | assumption);first | exact h_ | (have e_:=(Kd.R_reads' HO_5.out).1;omega) | simpa using h_) (seg:=[.int .i64 t39]) (j:=3) hcl91 hcc91 (show 4 ≤ 4 from by decide) (x':=(⟨(rd_T47 x5_15 t20).f0,(rd_T47 x5_15 t20).f1,(rd_T47 x5_15 t20).f2,t39⟩ : S47)) (k47_mkM _ _ _ (⟨(rd_T47 x5_15 t20).f0,(rd_T47 x5_15 t20).f1,(rd_T47 x5_15 t20).f2,t39⟩ : S47) ) (fun _ hk=>hk);have hx91_3:=hcc91 3 _ rfl;(try simp only [show (k47).sz = 4 from rfl,Nat.mul_one,Nat.add_zero] at hx91_3);have hf91_3:=hfr91 3;(try simp only [show (k47).sz = 4 from rfl,Nat.mul_one,Nat.add_zero] at hf91_3);clear hcl91 hcc91 hfr91 hM91) | ((with_reducible refine gate_store (t:=3) (p:=74) rfl ?_);refine store_event (t:=3) (p:=74) (v:=?vo_w92) (w1:=(w90.setCell ⟨go83,(t20 : Int).toNat * 4 + 3,none⟩ (.int .i64 t39))) ?hg ?ho ?hn ?hr ?_;(case ho=>rfl);(case hg=>rfl);(case hn=>rfl);(case hr=>first | (go_simp;done) | (go_simp;rfl));intro w92 hw;have hg : w90.grownBy w92 (some go83):=(by rw [hw];exact HP91.2);have hp_ : Kd.R k47 47 w92 w.heap.size (fun _=>True) (.slice (some ⟨go83,0,none⟩) x5_15.length co84) y41:=(by rw [hw,Ny41.out];exact HP91.1);clear HP91;have n0_:=a0_ (hp_);have n1_:=a0_ (Kd.R_over' (v:=(.slice (some ⟨go83,0,none⟩) x5_15.length co84)) (rr_ Z7.out) (Kd.R_typed HO_5.out) (by decide) hg);have n2_:=a0_ (blk_grown (bb_ BK1.out) hg (Kd.R_ne HO_5.out BK1.out (by decide)));have n3_:=a0_ (blk_grown (bb_ BK6.out) hg (Kd.R_ne HO_5.out BK6.out (by decide)));have n4_:=a0_ (IsS81.grown is0_ hg (IsS81.own_ne HI0.out HO_5.out (by decide)));have n5_:=a0_ (Kd.R_over' (v:=(.slice (some ⟨go83,0,none⟩) x5_15.length co84)) (rr_ HO38.out) (Kd.R_typed HO_5.out) (by decide) hg);have n6_:=a0_ ((by rw [hw];exact below_set (HB.out) (Nat.le_trans HL.out GB83.out) : Below w0.heap.size w0 w92));have n7_:=a0_ (KeepBut.trans (w:=w) hk_ (KeepBut.of_grown hg g) (Kd.R_base2 HO_5.out));clear HO_5 Z7;clear BK1 BK6;clear HI0 HO38;clear HB HK;have HO_5:=n0_;have Z7:=n1_;have BK1:=n2_;have BK6:=n3_;have HI0:=n4_;have HO38:=n5_;have HB:=n6_;have HK:=n7_;clear n0_ n1_ n2_ n3_ n4_ n5_ n6_ n7_;clear hg hw hp_;have hnb93:=NB6_1.out;have hnc93:=NB1_6.out;have hnb94:=NB6_0.out;have hnc94:=NB0_6.out;have hcz95_0 : w92.cell? ⟨gb6,0,none⟩ = some (.slice Ao20 t2.length co20):=(blk_cell BK6.out 0).trans rfl;have hfz95_0:=blk_frozen BK6.out 0;have hnb96:=NB1_0.out;have hnc96:=NB0_1.out;have hcz97_0 : w92.cell? ⟨gb1,0,none⟩ = some (.slice none 0 0):=(blk_cell BK1.out 0).trans rfl;have hfz97_0:=blk_frozen BK1.out 0))
         refine bodyPost_ret (results_ct rfl _ _ gb1 25 #[.slice Ao20 t2.length co20] (0,0) _ rfl (by (with_reducible repeat (first | refine blk_drewN ?_ _ | refine blk_drew ?_ | refine blk_alloc ?_ _));refine blk_put (cs:=#[.slice none 0 0]) ?_ 0 _ rfl;(with_reducible repeat (first | refine blk_drewN ?_ _ | refine blk_drew ?_ | refine blk_alloc ?_ _));exact BK1.out) Try.underlying25 rfl (by kernel_rfl)) rfl ?_
         exact ⟨_,_,by first | rfl | (simp [errW_none,errW_some] <;> rfl) | (simp [*,errW_none,errW_some] <;> rfl),by (with_reducible repeat (first | apply Kd.R_alloc | apply Kd.R_drewN | apply Kd.R_drew));exact Kd.R_mono (Kd.R_far (p:=⟨gb1,0,none⟩) (Kd.R_types Z7.out BK1.out (by decide)) (fun _ hk=>hk.2) (.slice Ao20 t2.length co20)) (fun _ hk=>trivial),by (with_reducible repeat (first | apply Kd.R_alloc | apply Kd.R_drewN | apply Kd.R_drew));exact Kd.R_mono (Kd.R_far (p:=⟨gb1,0,none⟩) (Kd.R_types HO_5.out BK1.out (by decide)) (fun _ hk=>hk.2) (.slice Ao20 t2.length co20)) (fun _ hk=>trivial),is0_,hbi0_,hk_⟩
        ·rw [if_neg c82] at H
         exact absurd H (by simp)
       ·rw [if_neg c81] at H
        exact absurd H (by simp)
      ·rw [if_neg c79] at H
       have c79b0 : (t22 == 2) = false:=beq_eq_false_iff_ne.mpr c79
       have c79b1 : (t22 != 2) = true:=bne_iff_ne.mpr c79
       by_cases c98 : t22 = 3
       ·rw [if_pos c98] at H
        have c98b0 : (t22 == 3) = true:=beq_iff_eq.mpr c98
        have c98b1 : (t22 != 3) = false:=bne_eq_false_iff_eq.mpr c98
        clear c98
        by_cases c99 : 0 ≤ t20
        ·rw [if_pos c99] at H
         have c99b0 : decide (0 ≤ t20) = true:=decide_eq_true c99
         clear c99
         by_cases c100 : t20 < (x5_15.length : Int)
         ·rw [if_pos c100] at H
          have c100b0 : decide (t20 < (x5_15.length : Int)) = true:=decide_eq_true c100
          clear c100
          obtain ⟨y43,hy43⟩ : ∃ y_ : List (S47),y_ = (x5_15.set (t20 : Int).toNat (⟨(rd_T47 x5_15 t20).f0,!((rd_T47 x5_15 t20).f1),(rd_T47 x5_15 t20).f2,(rd_T47 x5_15 t20).f3⟩ : S47)):=⟨_,rfl⟩
          replace H : (some (t2,y43,t23)) = some (r1,r2,r3):=by first | (rw [hy43];with_reducible exact H) | (have H2_:=(Option.bind_some _ _).symm.trans H;rw [hy43];with_reducible exact H2_) | (have H2_:=(Option.bind_some _ _).symm.trans H;with_reducible exact H2_) | with_reducible exact H | (rw [hy43];exact H) | exact H
          have Ny43:=a0_ hy43
          clear hy43
          simp only [Option.some.injEq,Prod.mk.injEq] at H
          obtain ⟨rfl,rfl,rfl⟩:=H
          obtain ⟨Ao102,co102,eo102⟩:=Kd.R_slice HO_5.out
          subst eo102
          go_wp2_with (first | ((with_reducible refine gate_callee (f:=63) rfl ?_);refine goesL_ (some 45) rfl rfl Try.func63 (by kernel_rfl) rfl #[.pointer (some ⟨g,0,none⟩),.int .i64 (x5_15.length : Int)] rfl lm_ ?_;(with_reducible refine (spec_reader_pick.calls kj15 g s0_0 x1001_15 (x5_15.length : Int) t20 t21 w0 _ ?side1 ?side2 A39.out).mono ?_);(case side1=>exact is0_);(case side2=>exact hbi0_);rintro e w103 ⟨rfl,hi,hb,hk⟩;refine ⟨_,rfl,?_⟩;replace HO_5:=a0_ (Kd.R_mono (Kd.R_keep (IsS81.apart (is0_ : IsS81 w0 _ g s0_0 x1001_15) (rr_ HO_5.out) (by decide)) hk (fun _ h=>h.2)) (fun _ h=>h.1));replace Z7:=a0_ (Kd.R_mono (Kd.R_keep (IsS81.apart (is0_ : IsS81 w0 _ g s0_0 x1001_15) (rr_ Z7.out) (by decide)) hk (fun _ h=>h.2)) (fun _ h=>h.1));replace BK1:=kk_ hk BK1 NB1_0;replace BK6:=kk_ hk BK6 NB6_0;replace HK:=a0_ (KeepBut.trans (w:=w) hk_ hk (.inl rfl));replace HI0:=a0_ (hi);replace HB:=a0_ (hb);(try clear hb);(try clear hb2);(try clear hk);(try clear hi)) | ((with_reducible refine gate_callee (f:=63) rfl ?_);refine goesL_ (some 47) rfl rfl Try.func63 (by kernel_rfl) rfl #[.pointer (some ⟨g,0,none⟩),.int .i64 24] rfl lm_ ?_;(with_reducible refine (spec_reader_pick.calls kj15 g s0_0 t21 24 t22 t23 w0 _ ?side1 ?side2 A40.out).mono ?_);(case side1=>exact is0_);(case side2=>exact hbi0_);rintro e w104 ⟨rfl,hi,hb,hk⟩;refine ⟨_,rfl,?_⟩;replace HO_5:=a0_ (Kd.R_mono (Kd.R_keep (IsS81.apart (is0_ : IsS81 w0 _ g s0_0 t21) (rr_ HO_5.out) (by decide)) hk (fun _ h=>h.2)) (fun _ h=>h.1));replace Z7:=a0_ (Kd.R_mono (Kd.R_keep (IsS81.apart (is0_ : IsS81 w0 _ g s0_0 t21) (rr_ Z7.out) (by decide)) hk (fun _ h=>h.2)) (fun _ h=>h.1));replace BK1:=kk_ hk BK1 NB1_0;replace BK6:=kk_ hk BK6 NB6_0;replace HK:=a0_ (KeepBut.trans (w:=w) hk_ hk (.inl rfl));replace HI0:=a0_ (hi);replace HB:=a0_ (hb);(try clear hb);have p42 : 0 ≤ (t20 : Int):=of_decide_eq_true (by first | (with_reducible assumption) | assumption);have q42 : t20 < (x5_15.length : Int):=of_decide_eq_true (by first | (with_reducible assumption) | assumption);obtain ⟨ad42,e42,hx42_0,hx42_1,hx42_2,hx42_3⟩:=at_T47 (Kd.R_reads' HO_5.out).2.2 t20 p42 q42;cases e42;replace p42:=eq_true p42;replace q42:=eq_true q42;have p101 : 0 ≤ (t20 : Int):=of_decide_eq_true (by first | (with_reducible assumption) | assumption);have q101 : (t20 : Int) < ((x5_15.length : Int) : Int):=of_decide_eq_true (by first | (with_reducible assumption) | assumption);obtain ⟨go101,co101,eo101,gb101,gl101,cl101,HG101⟩:=Kd.R_form HO_5.out (by omega);(first | cases eo101 | (injection eo101 with ea_ en_ ec_;(first | subst ea_ | (injection ea_ with ea_;subst ea_));subst ec_;clear en_));have GB101:=a0_ gb101;have GG101:=a0_ HG101;clear gb101 gl101 HG101;(first | simp only [add_plain] at hx42_0 | skip);(first | simp only [add_plain] at hx42_1 | skip);(first | simp only [add_plain] at hx42_2 | skip);(first | simp only [add_plain] at hx42_3 | skip);obtain ⟨ce101,hcl101,hM101,hcc101,hfr101⟩:=Kd.R_elem HO_5.out z47 (t20 : Int) p101 q101;obtain rfl:=k47_openM hM101;have hx101_0 : w104.cell? ⟨go101,(t20 : Int).toNat * 4,none⟩ = some (.int .i64 ((rd_T47 x5_15 t20).f0)):=hcc101 0 _ rfl;have hx101_1 : w104.cell? ⟨go101,(t20 : Int).toNat * 4 + 1,none⟩ = some (.bool ((rd_T47 x5_15 t20).f1)):=hcc101 1 _ rfl;have hx101_2 : w104.cell? ⟨go101,(t20 : Int).toNat * 4 + 2,none⟩ = some (.int .i64 ((rd_T47 x5_15 t20).f2)):=hcc101 2 _ rfl;have hx101_3 : w104.cell? ⟨go101,(t20 : Int).toNat * 4 + 3,none⟩ = some (.int .i64 ((rd_T47 x5_15 t20).f3)):=hcc101 3 _ rfl;have hf101_0 : w104.frozen? ⟨go101,(t20 : Int).toNat * 4,none⟩ = false:=hfr101 0;have hf101_1 : w104.frozen? ⟨go101,(t20 : Int).toNat * 4 + 1,none⟩ = false:=hfr101 1;have hf101_2 : w104.frozen? ⟨go101,(t20 : Int).toNat * 4 + 2,none⟩ = false:=hfr101 2;have hf101_3 : w104.frozen? ⟨go101,(t20 : Int).toNat * 4 + 3,none⟩ = false:=hfr101 3;clear hcl101 hcc101 hfr101 hM101;replace p101:=eq_true p101;replace q101:=eq_true q101;have HX105:=a0_ (show Kd.R k47 47 w104 w.heap.size (fun _=>True) (.slice (some ⟨go101,0,none⟩) x5_15.length co102) x5_15 from (rr_ HO_5.out));obtain ⟨ce105,hcl105,hM105,hcc105,hfr105⟩:=Kd.R_elem HX105.out z47 (t20 : Int) (of_decide_eq_true (by first | (with_reducible assumption) | assumption)) (by have h_ : (t20 : Int) < ((x5_15.length : Int) : Int):=of_decide_eq_true (by first | (with_reducible assumption) | assumption);first | exact h_ | (have e_:=(Kd.R_reads' HO_5.out).1;omega) | simpa using h_);obtain rfl:=k47_openM hM105;have HP105:=Kd.R_seg HX105.out (t20 : Int) (of_decide_eq_true (by first | (with_reducible assumption) | assumption)) (by have h_ : (t20 : Int) < ((x5_15.length : Int) : Int):=of_decide_eq_true (by first | (with_reducible assumption) | assumption);first | exact h_ | (have e_:=(Kd.R_reads' HO_5.out).1;omega) | simpa using h_) (seg:=[.bool (!((rd_T47 x5_15 t20).f1))]) (j:=1) hcl105 hcc105 (show 2 ≤ 4 from by decide) (x':=(⟨(rd_T47 x5_15 t20).f0,!((rd_T47 x5_15 t20).f1),(rd_T47 x5_15 t20).f2,(rd_T47 x5_15 t20).f3⟩ : S47)) (k47_mkM _ _ _ (⟨(rd_T47 x5_15 t20).f0,!((rd_T47 x5_15 t20).f1),(rd_T47 x5_15 t20).f2,(rd_T47 x5_15 t20).f3⟩ : S47) ) (fun _ hk=>hk);have hx105_1:=hcc105 1 _ rfl;(try simp only [show (k47).sz = 4 from rfl,Nat.mul_one,Nat.add_zero] at hx105_1);have hf105_1:=hfr105 1;(try simp only [show (k47).sz = 4 from rfl,Nat.mul_one,Nat.add_zero] at hf105_1);clear hcl105 hcc105 hfr105 hM105) | ((with_reducible refine gate_store (t:=4) (p:=86) rfl ?_);refine store_event (t:=4) (p:=86) (v:=?vo_w106) (w1:=(w104.setCell ⟨go101,(t20 : Int).toNat * 4 + 1,none⟩ (.bool (!((rd_T47 x5_15 t20).f1))))) ?hg ?ho ?hn ?hr ?_;(case ho=>rfl);(case hg=>rfl);(case hn=>rfl);(case hr=>first | (go_simp;done) | (go_simp;rfl));intro w106 hw;have hg : w104.grownBy w106 (some go101):=(by rw [hw];exact HP105.2);have hp_ : Kd.R k47 47 w106 w.heap.size (fun _=>True) (.slice (some ⟨go101,0,none⟩) x5_15.length co102) y43:=(by rw [hw,Ny43.out];exact HP105.1);clear HP105;have n0_:=a0_ (hp_);have n1_:=a0_ (Kd.R_over' (v:=(.slice (some ⟨go101,0,none⟩) x5_15.length co102)) (rr_ Z7.out) (Kd.R_typed HO_5.out) (by decide) hg);have n2_:=a0_ (blk_grown (bb_ BK1.out) hg (Kd.R_ne HO_5.out BK1.out (by decide)));have n3_:=a0_ (blk_grown (bb_ BK6.out) hg (Kd.R_ne HO_5.out BK6.out (by decide)));have n4_:=a0_ (IsS81.grown is0_ hg (IsS81.own_ne HI0.out HO_5.out (by decide)));have n5_:=a0_ ((by rw [hw];exact below_set (HB.out) (Nat.le_trans HL.out GB101.out) : Below w0.heap.size w0 w106));have n6_:=a0_ (KeepBut.trans (w:=w) hk_ (KeepBut.of_grown hg g) (Kd.R_base2 HO_5.out));clear HO_5 Z7;clear BK1 BK6;clear HI0 HB HK;have HO_5:=n0_;have Z7:=n1_;have BK1:=n2_;have BK6:=n3_;have HI0:=n4_;have HB:=n5_;have HK:=n6_;clear n0_ n1_ n2_ n3_ n4_ n5_ n6_;clear hg hw hp_;have hnb107:=NB6_1.out;have hnc107:=NB1_6.out;have hnb108:=NB6_0.out;have hnc108:=NB0_6.out;have hcz109_0 : w106.cell? ⟨gb6,0,none⟩ = some (.slice Ao20 t2.length co20):=(blk_cell BK6.out 0).trans rfl;have hfz109_0:=blk_frozen BK6.out 0;have hnb110:=NB1_0.out;have hnc110:=NB0_1.out;have hcz111_0 : w106.cell? ⟨gb1,0,none⟩ = some (.slice none 0 0):=(blk_cell BK1.out 0).trans rfl;have hfz111_0:=blk_frozen BK1.out 0))
          refine bodyPost_ret (results_ct rfl _ _ gb1 25 #[.slice Ao20 t2.length co20] (0,0) _ rfl (by (with_reducible repeat (first | refine blk_drewN ?_ _ | refine blk_drew ?_ | refine blk_alloc ?_ _));refine blk_put (cs:=#[.slice none 0 0]) ?_ 0 _ rfl;(with_reducible repeat (first | refine blk_drewN ?_ _ | refine blk_drew ?_ | refine blk_alloc ?_ _));exact BK1.out) Try.underlying25 rfl (by kernel_rfl)) rfl ?_
          exact ⟨_,_,by first | rfl | (simp [errW_none,errW_some] <;> rfl) | (simp [*,errW_none,errW_some] <;> rfl),by (with_reducible repeat (first | apply Kd.R_alloc | apply Kd.R_drewN | apply Kd.R_drew));exact Kd.R_mono (Kd.R_far (p:=⟨gb1,0,none⟩) (Kd.R_types Z7.out BK1.out (by decide)) (fun _ hk=>hk.2) (.slice Ao20 t2.length co20)) (fun _ hk=>trivial),by (with_reducible repeat (first | apply Kd.R_alloc | apply Kd.R_drewN | apply Kd.R_drew));exact Kd.R_mono (Kd.R_far (p:=⟨gb1,0,none⟩) (Kd.R_types HO_5.out BK1.out (by decide)) (fun _ hk=>hk.2) (.slice Ao20 t2.length co20)) (fun _ hk=>trivial),is0_,hbi0_,hk_⟩
         ·rw [if_neg c100] at H
          exact absurd H (by simp)
        ·rw [if_neg c99] at H
         exact absurd H (by simp)
       ·rw [if_neg c98] at H
        have c98b0 : (t22 == 3) = false:=beq_eq_false_iff_ne.mpr c98
        have c98b1 : (t22 != 3) = true:=bne_iff_ne.mpr c98
        simp only [Option.some.injEq,Prod.mk.injEq] at H
        obtain ⟨rfl,rfl,rfl⟩:=H
        obtain ⟨Ao112,co112,eo112⟩:=Kd.R_slice HO_5.out
        subst eo112
        go_wp2_with (first | ((with_reducible refine gate_callee (f:=63) rfl ?_);refine goesL_ (some 45) rfl rfl Try.func63 (by kernel_rfl) rfl #[.pointer (some ⟨g,0,none⟩),.int .i64 (x5_15.length : Int)] rfl lm_ ?_;(with_reducible refine (spec_reader_pick.calls kj15 g s0_0 x1001_15 (x5_15.length : Int) t20 t21 w0 _ ?side1 ?side2 A39.out).mono ?_);(case side1=>exact is0_);(case side2=>exact hbi0_);rintro e w113 ⟨rfl,hi,hb,hk⟩;refine ⟨_,rfl,?_⟩;replace HO_5:=a0_ (Kd.R_mono (Kd.R_keep (IsS81.apart (is0_ : IsS81 w0 _ g s0_0 x1001_15) (rr_ HO_5.out) (by decide)) hk (fun _ h=>h.2)) (fun _ h=>h.1));replace Z7:=a0_ (Kd.R_mono (Kd.R_keep (IsS81.apart (is0_ : IsS81 w0 _ g s0_0 x1001_15) (rr_ Z7.out) (by decide)) hk (fun _ h=>h.2)) (fun _ h=>h.1));replace BK1:=kk_ hk BK1 NB1_0;replace BK6:=kk_ hk BK6 NB6_0;replace HK:=a0_ (KeepBut.trans (w:=w) hk_ hk (.inl rfl));replace HI0:=a0_ (hi);replace HB:=a0_ (hb);(try clear hb);(try clear hb2);(try clear hk);(try clear hi)) | ((with_reducible refine gate_callee (f:=63) rfl ?_);refine goesL_ (some 47) rfl rfl Try.func63 (by kernel_rfl) rfl #[.pointer (some ⟨g,0,none⟩),.int .i64 24] rfl lm_ ?_;(with_reducible refine (spec_reader_pick.calls kj15 g s0_0 t21 24 t22 t23 w0 _ ?side1 ?side2 A40.out).mono ?_);(case side1=>exact is0_);(case side2=>exact hbi0_);rintro e w114 ⟨rfl,hi,hb,hk⟩;refine ⟨_,rfl,?_⟩;replace HO_5:=a0_ (Kd.R_mono (Kd.R_keep (IsS81.apart (is0_ : IsS81 w0 _ g s0_0 t21) (rr_ HO_5.out) (by decide)) hk (fun _ h=>h.2)) (fun _ h=>h.1));replace Z7:=a0_ (Kd.R_mono (Kd.R_keep (IsS81.apart (is0_ : IsS81 w0 _ g s0_0 t21) (rr_ Z7.out) (by decide)) hk (fun _ h=>h.2)) (fun _ h=>h.1));replace BK1:=kk_ hk BK1 NB1_0;replace BK6:=kk_ hk BK6 NB6_0;replace HK:=a0_ (KeepBut.trans (w:=w) hk_ hk (.inl rfl));replace HI0:=a0_ (hi);replace HB:=a0_ (hb);(try clear hb);have hnb115:=NB6_1.out;have hnc115:=NB1_6.out;have hnb116:=NB6_0.out;have hnc116:=NB0_6.out;have hcz117_0 : w114.cell? ⟨gb6,0,none⟩ = some (.slice Ao20 t2.length co20):=(blk_cell BK6.out 0).trans rfl;have hfz117_0:=blk_frozen BK6.out 0;have hnb118:=NB1_0.out;have hnc118:=NB0_1.out;have hcz119_0 : w114.cell? ⟨gb1,0,none⟩ = some (.slice none 0 0):=(blk_cell BK1.out 0).trans rfl;have hfz119_0:=blk_frozen BK1.out 0))
        refine bodyPost_ret (results_ct rfl _ _ gb1 25 #[.slice Ao20 t2.length co20] (0,0) _ rfl (by (with_reducible repeat (first | refine blk_drewN ?_ _ | refine blk_drew ?_ | refine blk_alloc ?_ _));refine blk_put (cs:=#[.slice none 0 0]) ?_ 0 _ rfl;(with_reducible repeat (first | refine blk_drewN ?_ _ | refine blk_drew ?_ | refine blk_alloc ?_ _));exact BK1.out) Try.underlying25 rfl (by kernel_rfl)) rfl ?_
        exact ⟨_,_,by first | rfl | (simp [errW_none,errW_some] <;> rfl) | (simp [*,errW_none,errW_some] <;> rfl),by (with_reducible repeat (first | apply Kd.R_alloc | apply Kd.R_drewN | apply Kd.R_drew));exact Kd.R_mono (Kd.R_far (p:=⟨gb1,0,none⟩) (Kd.R_types Z7.out BK1.out (by decide)) (fun _ hk=>hk.2) (.slice Ao20 t2.length co20)) (fun _ hk=>trivial),by (with_reducible repeat (first | apply Kd.R_alloc | apply Kd.R_drewN | apply Kd.R_drew));exact Kd.R_mono (Kd.R_far (p:=⟨gb1,0,none⟩) (Kd.R_types HO_5.out BK1.out (by decide)) (fun _ hk=>hk.2) (.slice Ao20 t2.length co20)) (fun _ hk=>trivial),is0_,hbi0_,hk_⟩
theorem spec_someGroup_j1 (b : List Int) (hb : byL b) (t : List Cls) (g : List Prt) (q : Int) (h0 : 0 ≤ q) (h1 : q ≤ 1099511600000) (hl : 1 ≤ g.length) : ∃ g' q',Ev (fun k=>spec_someGroup.j1 k g b q t) (t,g',q') ∧ q ≤ q' ∧ q' ≤ q + 3 ∧ g'.length = g.length:=by
 obtain ⟨x,hx,x0,x1,_⟩:=spec_pick_ev b q (g.length : Int) hb h0 (by omega)
 have x1:=x1 (by omega)
 obtain ⟨y,hy,y0,y1,_⟩:=spec_pick_ev b (q + 1) 24 hb (by omega) (by omega)
 by_cases c0 : y = 0
 ·obtain ⟨s,hs,_⟩:=spec_one_ev b (q + 1 + 1) [(-1),6,0,1] hb (by omega) (by omega) (by simp)
  refine ⟨g.set (x : Int).toNat ⟨s,(rd_T47 g x).f1,(rd_T47 g x).f2,(rd_T47 g x).f3⟩,q + 1 + 1 + 1,Ev.succ ?_,by omega,by omega,by rw [List.length_set]⟩
  simp only [spec_someGroup.j1]
  exact Ev.bind hx (Ev.bind hy (Ev.pos c0 (Ev.bind hs (Ev.pos x0 (Ev.pos x1 (Ev.const rfl))))))
 by_cases c1 : y = 1
 ·obtain ⟨s,hs,_⟩:=spec_one_ev b (q + 1 + 1) [(-1),8,1] hb (by omega) (by omega) (by simp)
  refine ⟨g.set (x : Int).toNat ⟨(rd_T47 g x).f0,(rd_T47 g x).f1,s,(rd_T47 g x).f3⟩,q + 1 + 1 + 1,Ev.succ ?_,by omega,by omega,by rw [List.length_set]⟩
  simp only [spec_someGroup.j1]
  exact Ev.bind hx (Ev.bind hy (Ev.neg c0 (Ev.pos c1 (Ev.bind hs (Ev.pos x0 (Ev.pos x1 (Ev.const rfl)))))))
 by_cases c2 : y = 2
 ·obtain ⟨s,hs,_⟩:=spec_one_ev b (q + 1 + 1) [(-1),100] hb (by omega) (by omega) (by simp)
  refine ⟨g.set (x : Int).toNat ⟨(rd_T47 g x).f0,(rd_T47 g x).f1,(rd_T47 g x).f2,s⟩,q + 1 + 1 + 1,Ev.succ ?_,by omega,by omega,by rw [List.length_set]⟩
  simp only [spec_someGroup.j1]
  exact Ev.bind hx (Ev.bind hy (Ev.neg c0 (Ev.neg c1 (Ev.pos c2 (Ev.bind hs (Ev.pos x0 (Ev.pos x1 (Ev.const rfl))))))))
 by_cases c3 : y = 3
 ·refine ⟨g.set (x : Int).toNat ⟨(rd_T47 g x).f0,!((rd_T47 g x).f1),(rd_T47 g x).f2,(rd_T47 g x).f3⟩,q + 1 + 1,Ev.succ ?_,by omega,by omega,by rw [List.length_set]⟩
  simp only [spec_someGroup.j1]
  exact Ev.bind hx (Ev.bind hy (Ev.neg c0 (Ev.neg c1 (Ev.neg c2 (Ev.pos c3 (Ev.pos x0 (Ev.pos x1 (Ev.const rfl))))))))
 ·refine ⟨g,q + 1 + 1,Ev.succ ?_,by omega,by omega,rfl⟩
  simp only [spec_someGroup.j1]
  exact Ev.bind hx (Ev.bind hy (Ev.neg c0 (Ev.neg c1 (Ev.neg c2 (Ev.neg c3 (Ev.const rfl))))))
theorem spec_someGroup_l0 (b : List Int) (hb : byL b) (t : List Cls) (q : Int) (h0 : 0 ≤ q) (h1 : q ≤ 1099511600000) (n : Nat) (hn : 1 ≤ n) (hn2 : n ≤ 1000000) : ∀ (d i : Nat) (g : List Prt),i + d = n → g.length = n → ∃ g' q',Ev (fun k=>spec_someGroup.l0 k g (i : Int) b q t) (t,g',q') ∧ q ≤ q' ∧ q' ≤ q + 3 ∧ g'.length = n:=by
 intro d
 induction d with
 | zero =>
  intro i g hi hg
  obtain ⟨g',q',he,a1,a2,a3⟩:=spec_someGroup_j1 b hb t g q h0 h1 (by omega)
  refine ⟨g',q',Ev.succ ?_,a1,a2,by omega⟩
  simp only [spec_someGroup.l0]
  exact Ev.neg (by omega) he
 | succ d ih =>
  intro i g hi hg
  obtain ⟨g',q',he,a1,a2,a3⟩:=ih (i + 1) (g.set ((i : Int)).toNat ⟨wrap64 (((rd_T47 g (i : Int)).f0) - 2),(rd_T47 g (i : Int)).f1,(rd_T47 g (i : Int)).f2,(rd_T47 g (i : Int)).f3⟩) (by omega) (by rw [List.length_set];exact hg)
  refine ⟨g',q',Ev.succ ?_,a1,a2,a3⟩
  simp only [spec_someGroup.l0]
  rw [wrap_succ (i:=(i : Int)) (n:=n) (by omega) (by omega) (by omega)]
  exact Ev.pos (by omega) (Ev.pos (by omega) he)
theorem spec_someGroup_ev (b : List Int) (p : Int) (hb : byL b) (h0 : 0 ≤ p) (hp : p ≤ 1099511500000) : ∃ t g q,Ev (fun k=>spec_someGroup.f k b p) (t,g,q) ∧ p ≤ q ∧ q ≤ p + 400 ∧ t.length ≤ 8 ∧ smT t = true ∧ g.length ≤ 16:=by
 obtain ⟨t,q,ht,h1,h2,h3,h4⟩:=spec_someTree_ev b p hb h0 (by omega)
 have hs:=smT_mk h4
 by_cases hz : (t.length : Int) = 0
 ·exact ⟨t,_,q,Ev.bind ht (Ev.pos hz (Ev.const rfl)),by omega,by omega,h3,hs,by simp⟩
 obtain ⟨g,r,hg,a1,a2,a3,a4⟩:=spec_goodGroup_ev b hb t 3 0 q rfl (by omega) (by omega) (by rw [show cG 3 = 160 by decide];omega) (by decide)
 rw [show cG 3 = 160 by decide] at a2
 rw [show lG 3 = 40 by decide] at a4
 by_cases h16 : (g.length : Int) > 16
 ·obtain ⟨g2,r2,hg2,b1,b2,b3,b4⟩:=spec_goodGroup_ev b hb t 1 2 r rfl (by omega) (by omega) (by rw [show cG 1 = 16 by decide];omega) (by decide)
  rw [show cG 1 = 16 by decide] at b2
  rw [show lG 1 = 4 by decide] at b4
  obtain ⟨g3,r3,hg3,c1,c2,c3⟩:=spec_someGroup_l0 b hb t r2 (by omega) (by omega) g2.length b3 (by omega) g2.length 0 g2 (by omega) rfl
  exact ⟨t,g3,r3,Ev.bind ht (Ev.neg hz (Ev.bind hg (Ev.pos h16 (Ev.bind hg2 hg3)))),by omega,by omega,h3,hs,by omega⟩
 ·obtain ⟨g3,r3,hg3,c1,c2,c3⟩:=spec_someGroup_j1 b hb t g r (by omega) (by omega) a3
  exact ⟨t,g3,r3,Ev.bind ht (Ev.neg hz (Ev.bind hg (Ev.neg h16 hg3))),by omega,by omega,h3,hs,by omega⟩
end Go.Proofs.Ytfphcdbnnienhaa.P
namespace Go.Proofs.Ytfphcdbnnienhaa.P
open Go.RowKit Go.Proofs.YtfphcdbnnienhaaW.PrintWords Go.Proofs.YtfphcdbnnienhaaW.PrintLast Go.Proofs.YtfphcdbnnienhaaW.PrintMore
attribute [local go_sem] max2_int min2_int max_two min_two max_three min_three max_four min_four
set_option linter.unusedVariables false
set_option linter.unusedSimpArgs false
def spec_newReader.f (l0 : List Int) : Option (List Int × Int):=if (l0.length : Int) > 2000 then (if 2000 ≤ (l0.length : Int) then (some (l0.take 2000,0)) else (none)) else (some (l0,0))
set_option maxHeartbeats 8000000 in
set_option maxRecDepth 100000 in
theorem spec_newReader.calls (A0 : Option Addr) (c0 : Nat) (l0 : List Int) (r1 : List Int) (r2 : Int) (w0 w : World) (hB : Below w0.heap.size w0 w) (hr0 : Kd.C (Kd.int .u8) w0 A0 l0.length l0) (hc0 : l0.length ≤ c0) (h : spec_newReader.f l0 = some (r1,r2)) :
  Calls Try.prog 37 #[.slice A0 l0.length c0] w fun e w'=>∃ g_ : Nat,e = .returned (.pointer (some ⟨g_,0,none⟩)) ∧ IsS81 w0 w' g_ r1 r2 ∧ Below w0.heap.size w0 w' ∧ Below w.heap.size w w':=by
 have hu81:=Try.underlying81
 have HR0:=a0_ hr0
 have HC0:=a0_ hc0
 clear hr0 hc0
 have HBW:=a0_ (Below.refl w.heap.size w)
 have HW0:=a0_ hB.size
 have HB:=a0_ hB
 clear hB
 have H : (if (l0.length : Int) > 2000 then (if 2000 ≤ (l0.length : Int) then (some (l0.take 2000,0)) else (none)) else (some (l0,0))) = some (r1,r2):=h
 clear h
 by_cases c2 : (l0.length : Int) > 2000
 ·rw [if_pos c2] at H
  have c2b0 : decide (2000 < (l0.length : Int)) = true:=decide_eq_true c2
  have c2b1 : decide (2000 < l0.length) = true:=decide_eq_true (by omega)
  clear c2
  by_cases c3 : 2000 ≤ (l0.length : Int)
  ·rw [if_pos c3] at H
   have c3b0:=eq_true c3
   have c3b1 : decide (2000 ≤ (l0.length : Int)) = true:=decide_eq_true c3
   clear c3
   simp only [Option.some.injEq,Prod.mk.injEq] at H
   obtain ⟨rfl,rfl⟩:=H
   obtain ⟨i04,hi04,_,hsz4,_⟩:=info_parts info5
   obtain ⟨hcut4,hA4,hC4⟩:=print_take_of (P:=Try.prog) (Value.int .u8) 0 22 5 .i64 Try.underlying22 hi04 hsz4 A0 c0 l0 2000 (by omega) (of_decide_eq_true (by first | (with_reducible assumption) | assumption)) HC0.out
   have HR1:=a0_ (Kd.C_of_reads (h1:=fun _=>rfl) (hA4 _ (Kd.reads_of_C HR0.out)))
   have HC1:=a0_ hC4
   clear hA4 hC4 hi04 hsz4
   go_enter Try.func37,Try.ntmps37
   go_wp2_with (first | ((with_reducible refine gate_dst (N:=10) rfl ?_);refine box_event ?hg (N:=10) ?hd (cs:=#[.slice A0 (l0.take 2000).length c0,.int .i64 0]) (t:=81) ?hr ?_;(case hd=>rfl);(case hg=>rfl);(case hr=>first | (go_simp;done) | (go_simp;rfl));intro gb2 hg w5 hbox hb;have n0_:=a0_ (below_step HBW.out hb);have n1_:=a0_ (below_step hb_ hb);have n2_:=a0_ (hbox);have n3_:=a0_ ((by rw [hg];exact (below_size (by repeat (first | (with_reducible first | exact HBW.out | apply below_alloc | apply pw_below_drewN | apply below_drew1) | exact HBW.out))) : w.heap.size ≤ gb2));have n4_:=a0_ ((Nat.le_trans HW0.out (by rw [hg];exact (below_size (by repeat (first | (with_reducible first | exact HBW.out | apply below_alloc | apply pw_below_drewN | apply below_drew1) | exact HBW.out))) : w.heap.size ≤ gb2) : w0.heap.size ≤ gb2));clear HBW HB;have HBW:=n0_;have HB:=n1_;have BK2:=n2_;have GW2:=n3_;have GE2:=n4_;clear n0_ n1_ n2_ n3_ n4_;clear hb hbox hg))
   go_ret
   exact ⟨_,rfl,(show IsS81 w0 _ gb2 (l0.take 2000) 0 from ⟨_,_,by (with_reducible repeat (first | refine blk_drewN ?_ _ | refine blk_drew ?_ | refine blk_alloc ?_ _));exact BK2.out,GE2.out,HR1.out⟩),hb_,by repeat (first | (with_reducible first | exact HBW.out | apply below_alloc | apply pw_below_drewN | apply below_drew1 | refine below_set ?_ GW2.out) | exact HBW.out)⟩
  ·rw [if_neg c3] at H
   exact absurd H (by simp)
 ·rw [if_neg c2] at H
  have c2b0 : decide (2000 < (l0.length : Int)) = false:=decide_eq_false c2
  have c2b1 : decide (2000 < l0.length) = false:=decide_eq_false (by omega)
  clear c2
  simp only [Option.some.injEq,Prod.mk.injEq] at H
  obtain ⟨rfl,rfl⟩:=H
  go_enter Try.func37,Try.ntmps37
  go_wp2_with (first | ((with_reducible refine gate_dst (N:=10) rfl ?_);refine box_event ?hg (N:=10) ?hd (cs:=#[.slice A0 l0.length c0,.int .i64 0]) (t:=81) ?hr ?_;(case hd=>rfl);(case hg=>rfl);(case hr=>first | (go_simp;done) | (go_simp;rfl));intro gb3 hg w6 hbox hb;have n0_:=a0_ (below_step HBW.out hb);have n1_:=a0_ (below_step hb_ hb);have n2_:=a0_ (hbox);have n3_:=a0_ ((by rw [hg];exact (below_size (by repeat (first | (with_reducible first | exact HBW.out | apply below_alloc | apply pw_below_drewN | apply below_drew1) | exact HBW.out))) : w.heap.size ≤ gb3));have n4_:=a0_ ((Nat.le_trans HW0.out (by rw [hg];exact (below_size (by repeat (first | (with_reducible first | exact HBW.out | apply below_alloc | apply pw_below_drewN | apply below_drew1) | exact HBW.out))) : w.heap.size ≤ gb3) : w0.heap.size ≤ gb3));clear HBW HB;have HBW:=n0_;have HB:=n1_;have BK3:=n2_;have GW3:=n3_;have GE3:=n4_;clear n0_ n1_ n2_ n3_ n4_;clear hb hbox hg))
  go_ret
  exact ⟨_,rfl,(show IsS81 w0 _ gb3 l0 0 from ⟨_,_,by (with_reducible repeat (first | refine blk_drewN ?_ _ | refine blk_drew ?_ | refine blk_alloc ?_ _));exact BK3.out,GE3.out,HR0.out⟩),hb_,by repeat (first | (with_reducible first | exact HBW.out | apply below_alloc | apply pw_below_drewN | apply below_drew1 | refine below_set ?_ GW3.out) | exact HBW.out)⟩
theorem spec_newReader_ev (l : List Int) (hl : ∀ x ∈ l,(Lit.int .u8 x).wf = true) : ∃ b,spec_newReader.f l = some (b,0) ∧ byL b:=by
 have h8 : ∀ x ∈ l,0 ≤ x ∧ x ≤ 255:=by
  intro x hx
  have:=hl x hx
  simp [Lit.wf,IntKind.min,IntKind.max,IntKind.bits,IntKind.signed] at this
  omega
 unfold spec_newReader.f
 by_cases h : (l.length : Int) > 2000
 ·refine ⟨l.take 2000,by rw [if_pos h,if_pos (by omega)],?_,fun x hx=>h8 x (List.mem_of_mem_take hx)⟩
  rw [List.length_take]
  omega
 ·exact ⟨l,by rw [if_neg h],by omega,h8⟩
end Go.Proofs.Ytfphcdbnnienhaa.P
namespace Go.Proofs.Ytfphcdbnnienhaa.P
open Go.RowKit Go.Proofs.YtfphcdbnnienhaaW.PrintWords Go.Proofs.YtfphcdbnnienhaaW.PrintLast Go.Proofs.YtfphcdbnnienhaaW.PrintMore
attribute [local go_sem] max2_int min2_int max_two min_two max_three min_three max_four min_four
set_option linter.unusedVariables false
set_option linter.unusedSimpArgs false
def spec_aClass.f (k : Nat) (s0_0 : List Int) (s0_1 : Int) (l1_0 : List (S85)) : Option (Int × Int):=(spec_reader_pick.f k s0_0 s0_1 16).bind fun bt2=>(if bt2.1 = 0 then ((spec_reader_one.f k s0_0 bt2.2 (([(-1),(l1_0.length : Int),8] : List Int))).bind fun bt7=>(some (bt7.1,bt7.2))) else ((spec_reader_pick.f k s0_0 bt2.2 (l1_0.length : Int)).bind fun bt9=>(some (bt9.1,bt9.2))))
theorem spec_aClass.mono : ∀ a0 a1 a2 k,LeO (spec_aClass.f k a0 a1 a2) (spec_aClass.f (k + 1) a0 a1 a2):=by
 intro a0 a1 a2 k
 unfold spec_aClass.f
 repeat' first
   | (with_reducible exact spec_reader_one.mono _ _ _ _)
   | (with_reducible exact spec_reader_pick.mono _ _ _ _)
   | (with_reducible exact LeO.refl _)
   | (with_reducible exact LeO.none _)
   | (with_reducible refine LeO.ite ?_ ?_)
   | (with_reducible refine LeO.bind ?_ (fun _=>?_))
   | exact spec_reader_one.mono _ _ _ _
   | exact spec_reader_pick.mono _ _ _ _
   | exact LeO.none _
   | refine LeO.ite ?_ ?_
   | refine LeO.bind ?_ (fun _=>?_)
set_option maxHeartbeats 8000000 in
set_option maxRecDepth 100000 in
theorem spec_aClass.calls (k : Nat) (g : Nat) (s0_0 : List Int) (s0_1 : Int) (A1_0 : Option Addr) (c1_0 : Nat) (l1_0 : List (S85)) (r1 : Int) (r2 : Int) (w0 w : World) (hI : IsS81 w0 w g s0_0 s0_1) (hB : Below w0.heap.size w0 w) (hr1_0 : ∀ W_,KeepBut w W_ g none → Kd.C k85 W_ A1_0 l1_0.length l1_0) (hc1_0 : l1_0.length ≤ c1_0) (h : spec_aClass.f k s0_0 s0_1 l1_0 = some (r1,r2)) :
  Calls Try.prog 72 #[.pointer (some ⟨g,0,none⟩),.agg #[.slice A1_0 l1_0.length c1_0]] w fun e w'=>e = .returned (.int .i64 r1) ∧ IsS81 w0 w' g s0_0 r2 ∧ Below w0.heap.size w0 w' ∧ KeepBut w w' g none:=by
 have hu25:=Try.underlying25
 have HR1_0:=a0_ hr1_0
 have HC1_0:=a0_ hc1_0
 clear hr1_0 hc1_0
 have HI0:=a0_ hI
 have HK:=a0_ (KeepBut.refl w g none)
 have HL:=a0_ hB.size
 clear hI
 have HW0:=a0_ hB.size
 have HB:=a0_ hB
 clear hB
 have H : ((spec_reader_pick.f k s0_0 s0_1 16).bind fun bt2=>(if bt2.1 = 0 then ((spec_reader_one.f k s0_0 bt2.2 (([(-1),(l1_0.length : Int),8] : List Int))).bind fun bt7=>(some (bt7.1,bt7.2))) else ((spec_reader_pick.f k s0_0 bt2.2 (l1_0.length : Int)).bind fun bt9=>(some (bt9.1,bt9.2))))) = some (r1,r2):=h
 clear h
 replace H:=Option.bind_eq_some_iff.mp H
 obtain ⟨⟨t2,t3⟩,A30,H⟩:=H
 try dsimp only at H
 have A3:=a0_ A30
 clear A30
 by_cases c4 : t2 = 0
 ·rw [if_pos c4] at H
  have c4b0 : (t2 == 0) = true:=beq_iff_eq.mpr c4
  have c4b1 : (t2 != 0) = false:=bne_eq_false_iff_eq.mpr c4
  clear c4
  obtain ⟨y4,hy4⟩ : ∃ y_ : List Int,y_ = (([(-1),(l1_0.length : Int),8] : List Int)):=⟨_,rfl⟩
  replace H : ((spec_reader_one.f k s0_0 t3 y4).bind fun bt7=>(some (bt7.1,bt7.2))) = some (r1,r2):=by first | (rw [hy4];with_reducible exact H) | (have H2_:=(Option.bind_some _ _).symm.trans H;rw [hy4];with_reducible exact H2_) | (have H2_:=(Option.bind_some _ _).symm.trans H;with_reducible exact H2_) | with_reducible exact H | (rw [hy4];exact H) | exact H
  have Ny4:=a0_ hy4
  clear hy4
  replace H:=Option.bind_eq_some_iff.mp H
  obtain ⟨⟨t7,t8⟩,A50,H⟩:=H
  replace H : (some (t7,t8)) = some (r1,r2):=H
  have A5:=a0_ A50
  clear A50
  simp only [Option.some.injEq,Prod.mk.injEq] at H
  obtain ⟨rfl,rfl⟩:=H
  go_enter Try.func72,Try.ntmps72
  go_wp2_with (first | ((with_reducible refine gate_dst (N:=3) rfl ?_);refine box_event ?hg (N:=3) ?hd (cs:=#[.slice A1_0 l1_0.length c1_0]) (t:=25) ?hr ?_;(case hd=>rfl);(case hg=>rfl);(case hr=>first | (go_simp;done) | (go_simp;rfl));intro gb1 hg w6 hbox hb;have n0_:=a0_ (IsS81.below is0_ hb);have n1_:=a0_ (KeepBut.trans (w:=w) hk_ (KeepBut.of_below hb g none) (.inl rfl));have n2_:=a0_ (below_step hbi0_ hb);have n3_:=a0_ (hbox);have n4_:=a0_ ((by rw [hg];exact (keep_size (w:=w) (g:=g) (row:=none) hk_) : w.heap.size ≤ gb1));have n5_:=a0_ ((Nat.le_trans HW0.out (by rw [hg];exact (keep_size (w:=w) (g:=g) (row:=none) hk_) : w.heap.size ≤ gb1) : w0.heap.size ≤ gb1));have n6_:=a0_ ((by rw [hg];exact Nat.ne_of_lt (IsS81.lt (is0_ : IsS81 w0 _ g s0_0 s0_1)) : g ≠ gb1));have n7_:=a0_ ((by rw [hg];exact Nat.ne_of_gt (IsS81.lt (is0_ : IsS81 w0 _ g s0_0 s0_1)) : gb1 ≠ g));clear HI0 HK HB;have HI0:=n0_;have HK:=n1_;have HB:=n2_;have BK1:=n3_;have GW1:=n4_;have GE1:=n5_;have NB0_1:=n6_;have NB1_0:=n7_;clear n0_ n1_ n2_ n3_ n4_ n5_ n6_ n7_;clear hb hbox hg) | ((with_reducible refine gate_callee (f:=63) rfl ?_);refine goesL_ (some 6) rfl rfl Try.func63 (by kernel_rfl) rfl #[.pointer (some ⟨g,0,none⟩),.int .i64 16] rfl lm_ ?_;(with_reducible refine (spec_reader_pick.calls k g s0_0 s0_1 16 t2 t3 w0 _ ?side1 ?side2 A3.out).mono ?_);(case side1=>exact is0_);(case side2=>exact hbi0_);rintro e w7 ⟨rfl,hi,hb,hk⟩;refine ⟨_,rfl,?_⟩;replace BK1:=kk_ hk BK1 NB1_0;replace HK:=a0_ (KeepBut.trans (w:=w) hk_ hk (.inl rfl));replace HI0:=a0_ (hi);replace HB:=a0_ (hb);(try clear hb);have hnb8:=NB1_0.out;have hnc8:=NB0_1.out;have hcz9_0 : w7.cell? ⟨gb1,0,none⟩ = some (.slice A1_0 l1_0.length c1_0):=(blk_cell BK1.out 0).trans rfl;have hfz9_0:=blk_frozen BK1.out 0) | ((with_reducible refine gate_dst (N:=12) rfl ?_);refine Kd.R_lit (Kd.int .i64) _ 3 ?hg (N:=12) ?hd (xs:=([(-1),(l1_0.length : Int),8] : List Int)) (inner:=[.int .i64 (-1),.int .i64 (l1_0.length : Int),.int .i64 8]) (ok:=fun _=>True) (okp:=fun _=>True) ?hr ?hp (fun _ hk=>hk) trivial (Below.refl _ _) (Nat.le_refl _) (by simp) ?_;(case hd=>rfl);(case hg=>rfl);(case hr=>first | (go_simp;done) | (go_simp;rfl));(case hp=>exact (Reps.one (show Kd.M (Kd.int .i64) _ _ _ (-1) [.int .i64 (-1)] from rfl) (Reps.one (show Kd.M (Kd.int .i64) _ _ _ (l1_0.length : Int) [.int .i64 (l1_0.length : Int)] from rfl) (Reps.one (show Kd.M (Kd.int .i64) _ _ _ 8 [.int .i64 8] from rfl) (Reps.none _ _)))));intro v5 w10 ho11 hb hg_ hnew_;clear hg_ hnew_;(first | rw [← Ny4.out] at ho11 | (simp only [Int.reduceToNat] at ho11;rw [← Ny4.out] at ho11));have n0_:=a0_ (Kd.R_lower ho11 (keep_size (w:=w) (g:=g) (row:=none) hk_));have n1_:=a0_ (IsS81.below is0_ hb);have n2_:=kb_ BK1 hb;have n3_:=a0_ (KeepBut.trans (w:=w) hk_ (KeepBut.of_below hb g none) (.inl rfl));have n4_:=a0_ (below_step hbi0_ hb);clear HI0 BK1;clear HK HB;have HO6:=n0_;have HI0:=n1_;have BK1:=n2_;have HK:=n3_;have HB:=n4_;clear n0_ n1_ n2_ n3_ n4_;clear hb ho11;obtain ⟨Ao12,co12,eo12⟩:=Kd.R_slice HO6.out;subst eo12) | ((with_reducible refine gate_callee (f:=64) rfl ?_);refine goesL_ (some 13) rfl rfl Try.func64 (by kernel_rfl) rfl #[.pointer (some ⟨g,0,none⟩),.slice Ao12 y4.length co12] rfl lm_ ?_;(with_reducible refine (spec_reader_one.calls k g s0_0 t3 _ _ y4 t7 t8 w0 _ ?side1 ?side2 ?side3 ?side4 ?side5 A5.out).mono ?_);(case side1=>exact is0_);(case side2=>exact hbi0_);(case side3=>exact cc_ (Kd.R_reads' HO6.out).2.2);(case side4=>exact (Kd.R_reads' HO6.out).2.1);(case side5=>exact far_slice (IsS81.own_ne HI0.out HO6.out (by decide)));rintro e w13 ⟨rfl,hi,hb,hk⟩;refine ⟨_,rfl,?_⟩;replace BK1:=kk_ hk BK1 NB1_0;replace HO6:=a0_ (Kd.R_mono (Kd.R_keep (IsS81.apart (is0_ : IsS81 w0 _ g s0_0 t3) (rr_ HO6.out) (by decide)) hk (fun _ h=>h.2)) (fun _ h=>h.1));replace HK:=a0_ (KeepBut.trans (w:=w) hk_ hk (.inl rfl));replace HI0:=a0_ (hi);replace HB:=a0_ (hb);(try clear hb);(try clear hb2);(try clear hk);(try clear hi)))
  go_ret
  exact ⟨by first | rfl | (simp [errW_none,errW_some] <;> rfl) | (simp [*,errW_none,errW_some] <;> rfl),is0_,hbi0_,hk_⟩
 ·rw [if_neg c4] at H
  have c4b0 : (t2 == 0) = false:=beq_eq_false_iff_ne.mpr c4
  have c4b1 : (t2 != 0) = true:=bne_iff_ne.mpr c4
  replace H:=Option.bind_eq_some_iff.mp H
  obtain ⟨⟨t9,t10⟩,A140,H⟩:=H
  replace H : (some (t9,t10)) = some (r1,r2):=H
  have A14:=a0_ A140
  clear A140
  simp only [Option.some.injEq,Prod.mk.injEq] at H
  obtain ⟨rfl,rfl⟩:=H
  go_enter Try.func72,Try.ntmps72
  go_wp2_with (first | ((with_reducible refine gate_dst (N:=3) rfl ?_);refine box_event ?hg (N:=3) ?hd (cs:=#[.slice A1_0 l1_0.length c1_0]) (t:=25) ?hr ?_;(case hd=>rfl);(case hg=>rfl);(case hr=>first | (go_simp;done) | (go_simp;rfl));intro gb1 hg w15 hbox hb;have n0_:=a0_ (IsS81.below is0_ hb);have n1_:=a0_ (KeepBut.trans (w:=w) hk_ (KeepBut.of_below hb g none) (.inl rfl));have n2_:=a0_ (below_step hbi0_ hb);have n3_:=a0_ (hbox);have n4_:=a0_ ((by rw [hg];exact (keep_size (w:=w) (g:=g) (row:=none) hk_) : w.heap.size ≤ gb1));have n5_:=a0_ ((Nat.le_trans HW0.out (by rw [hg];exact (keep_size (w:=w) (g:=g) (row:=none) hk_) : w.heap.size ≤ gb1) : w0.heap.size ≤ gb1));have n6_:=a0_ ((by rw [hg];exact Nat.ne_of_lt (IsS81.lt (is0_ : IsS81 w0 _ g s0_0 s0_1)) : g ≠ gb1));have n7_:=a0_ ((by rw [hg];exact Nat.ne_of_gt (IsS81.lt (is0_ : IsS81 w0 _ g s0_0 s0_1)) : gb1 ≠ g));clear HI0 HK HB;have HI0:=n0_;have HK:=n1_;have HB:=n2_;have BK1:=n3_;have GW1:=n4_;have GE1:=n5_;have NB0_1:=n6_;have NB1_0:=n7_;clear n0_ n1_ n2_ n3_ n4_ n5_ n6_ n7_;clear hb hbox hg) | ((with_reducible refine gate_callee (f:=63) rfl ?_);refine goesL_ (some 6) rfl rfl Try.func63 (by kernel_rfl) rfl #[.pointer (some ⟨g,0,none⟩),.int .i64 16] rfl lm_ ?_;(with_reducible refine (spec_reader_pick.calls k g s0_0 s0_1 16 t2 t3 w0 _ ?side1 ?side2 A3.out).mono ?_);(case side1=>exact is0_);(case side2=>exact hbi0_);rintro e w16 ⟨rfl,hi,hb,hk⟩;refine ⟨_,rfl,?_⟩;replace BK1:=kk_ hk BK1 NB1_0;replace HK:=a0_ (KeepBut.trans (w:=w) hk_ hk (.inl rfl));replace HI0:=a0_ (hi);replace HB:=a0_ (hb);(try clear hb);have hnb17:=NB1_0.out;have hnc17:=NB0_1.out;have hcz18_0 : w16.cell? ⟨gb1,0,none⟩ = some (.slice A1_0 l1_0.length c1_0):=(blk_cell BK1.out 0).trans rfl;have hfz18_0:=blk_frozen BK1.out 0) | ((with_reducible refine gate_callee (f:=63) rfl ?_);refine goesL_ (some 18) rfl rfl Try.func63 (by kernel_rfl) rfl #[.pointer (some ⟨g,0,none⟩),.int .i64 (l1_0.length : Int)] rfl lm_ ?_;(with_reducible refine (spec_reader_pick.calls k g s0_0 t3 (l1_0.length : Int) t9 t10 w0 _ ?side1 ?side2 A14.out).mono ?_);(case side1=>exact is0_);(case side2=>exact hbi0_);rintro e w19 ⟨rfl,hi,hb,hk⟩;refine ⟨_,rfl,?_⟩;replace BK1:=kk_ hk BK1 NB1_0;replace HK:=a0_ (KeepBut.trans (w:=w) hk_ hk (.inl rfl));replace HI0:=a0_ (hi);replace HB:=a0_ (hb);(try clear hb);(try clear hb2);(try clear hk);(try clear hi)))
  go_ret
  exact ⟨by first | rfl | (simp [errW_none,errW_some] <;> rfl) | (simp [*,errW_none,errW_some] <;> rfl),is0_,hbi0_,hk_⟩
theorem spec_aClass_ev (b : List Int) (p : Int) (t : List Cls) (hb : byL b) (h0 : 0 ≤ p) (hp : p ≤ 1099511627000) : ∃ x q,Ev (fun k=>spec_aClass.f k b p t) (x,q) ∧ p ≤ q ∧ q ≤ p + 2 ∧ (t.length ≤ 8 → -1 ≤ x ∧ x ≤ 8):=by
 obtain ⟨y,hy,y0,y1,_⟩:=spec_pick_ev b p 16 hb h0 (by omega)
 by_cases c0 : y = 0
 ·obtain ⟨s,hs,hsm⟩:=spec_one_ev b (p + 1) [(-1),(t.length : Int),8] hb (by omega) (by omega) (by simp)
  simp only [List.mem_cons,List.not_mem_nil,or_false] at hsm
  exact ⟨_,_,Ev.bind hy (Ev.pos c0 (Ev.bind hs (Ev.const rfl))),by omega,by omega,fun h=>by simp only;omega⟩
 ·obtain ⟨s,hs,s0,s1,s2⟩:=spec_pick_ev b (p + 1) (t.length : Int) hb (by omega) (by omega)
  exact ⟨_,_,Ev.bind hy (Ev.neg c0 (Ev.bind hs (Ev.const rfl))),by omega,by omega,fun h=>by simp only;omega⟩
end Go.Proofs.Ytfphcdbnnienhaa.P
namespace Go.Proofs.Ytfphcdbnnienhaa.P
open Go.RowKit Go.Proofs.YtfphcdbnnienhaaW.PrintWords Go.Proofs.YtfphcdbnnienhaaW.PrintLast Go.Proofs.YtfphcdbnnienhaaW.PrintMore
attribute [local go_sem] max2_int min2_int max_two min_two max_three min_three max_four min_four
set_option linter.unusedVariables false
set_option linter.unusedSimpArgs false
def spec_someCatches.l0 : Nat → List Int → Int → List Int → Int → List (S85) → Option (List Int × Int)
 | 0,_,_,_,_,_=>none
 | k + 1,x5,x6,x1000,x1001,x2000=>if x6 > 0 then ((spec_reader_pick.f k x1000 x1001 (x2000.length : Int)).bind fun bt10=>(if x5.length < 17592186044416 then (spec_someCatches.l0 k (x5 ++ [bt10.1]) (wrap64 (x6 - 1)) x1000 bt10.2 x2000) else (none))) else ((spec_reader_pick.f k x1000 x1001 16).bind fun bt15=>(if bt15.1 = 0 then ((spec_aClass.f k x1000 bt15.2 x2000).bind fun bt17=>(if x5.length < 17592186044416 then (some ((x5 ++ [bt17.1]),bt17.2)) else (none))) else (some (x5,bt15.2))))
def spec_someCatches.f (k : Nat) (s0_0 : List Int) (s0_1 : Int) (l1_0 : List (S85)) : Option (List Int × Int):=(spec_reader_one.f k s0_0 s0_1 (([2,3,1,4,0,7] : List Int))).bind fun bt8=>(spec_someCatches.l0 k (([] : List Int)) bt8.1 s0_0 bt8.2 l1_0)
theorem spec_someCatches.mono_l : ∀ k,(∀ y0 y1 y2 y3 y4,LeO (spec_someCatches.l0 k y0 y1 y2 y3 y4) (spec_someCatches.l0 (k + 1) y0 y1 y2 y3 y4))
 | 0=>fun _ _ _ _ _ r h=>by simp [spec_someCatches.l0] at h
 | k + 1=>by
  have ih0:=spec_someCatches.mono_l k
  ·intro y0 y1 y2 y3 y4
   unfold spec_someCatches.l0
   repeat' first
   | (with_reducible exact ih0 _ _ _ _ _)
   | (with_reducible exact spec_aClass.mono _ _ _ _)
   | (with_reducible exact spec_reader_one.mono _ _ _ _)
   | (with_reducible exact spec_reader_pick.mono _ _ _ _)
   | (with_reducible exact LeO.refl _)
   | (with_reducible exact LeO.none _)
   | (with_reducible refine LeO.ite ?_ ?_)
   | (with_reducible refine LeO.bind ?_ (fun _=>?_))
   | exact ih0 _ _ _ _ _
   | exact spec_aClass.mono _ _ _ _
   | exact spec_reader_one.mono _ _ _ _
   | exact spec_reader_pick.mono _ _ _ _
   | exact LeO.none _
   | refine LeO.ite ?_ ?_
   | refine LeO.bind ?_ (fun _=>?_)
theorem spec_someCatches.mono : ∀ a0 a1 a2 k,LeO (spec_someCatches.f k a0 a1 a2) (spec_someCatches.f (k + 1) a0 a1 a2):=by
 intro a0 a1 a2 k
 have ih0:=spec_someCatches.mono_l k
 unfold spec_someCatches.f
 repeat' first
   | (with_reducible exact ih0 _ _ _ _ _)
   | (with_reducible exact spec_aClass.mono _ _ _ _)
   | (with_reducible exact spec_reader_one.mono _ _ _ _)
   | (with_reducible exact spec_reader_pick.mono _ _ _ _)
   | (with_reducible exact LeO.refl _)
   | (with_reducible exact LeO.none _)
   | (with_reducible refine LeO.ite ?_ ?_)
   | (with_reducible refine LeO.bind ?_ (fun _=>?_))
   | exact ih0 _ _ _ _ _
   | exact spec_aClass.mono _ _ _ _
   | exact spec_reader_one.mono _ _ _ _
   | exact spec_reader_pick.mono _ _ _ _
   | exact LeO.none _
   | refine LeO.ite ?_ ?_
   | refine LeO.bind ?_ (fun _=>?_)
set_option maxHeartbeats 8000000 in
set_option maxRecDepth 100000 in
theorem spec_someCatches.calls (k : Nat) (g : Nat) (s0_0 : List Int) (s0_1 : Int) (A1_0 : Option Addr) (c1_0 : Nat) (l1_0 : List (S85)) (r1 : List Int) (r2 : Int) (w0 w : World) (hI : IsS81 w0 w g s0_0 s0_1) (hB : Below w0.heap.size w0 w) (hr1_0 : ∀ W_,KeepBut w W_ g none → Kd.C k85 W_ A1_0 l1_0.length l1_0) (hc1_0 : l1_0.length ≤ c1_0) (h : spec_someCatches.f k s0_0 s0_1 l1_0 = some (r1,r2)) :
  Calls Try.prog 52 #[.pointer (some ⟨g,0,none⟩),.agg #[.slice A1_0 l1_0.length c1_0]] w fun e w'=>∃ v0_ : Value,e = .returned (v0_) ∧ Kd.R (Kd.int .i64) 3 w' w.heap.size (fun _=>True) v0_ r1 ∧ IsS81 w0 w' g s0_0 r2 ∧ Below w0.heap.size w0 w' ∧ KeepBut w w' g none:=by
 have hu25:=Try.underlying25
 have HR1_0:=a0_ hr1_0
 have HC1_0:=a0_ hc1_0
 clear hr1_0 hc1_0
 have HI0:=a0_ hI
 have HK:=a0_ (KeepBut.refl w g none)
 have HL:=a0_ hB.size
 clear hI
 have HW0:=a0_ hB.size
 have HB:=a0_ hB
 clear hB
 have H : ((spec_reader_one.f k s0_0 s0_1 (([2,3,1,4,0,7] : List Int))).bind fun bt8=>(spec_someCatches.l0 k (([] : List Int)) bt8.1 s0_0 bt8.2 l1_0)) = some (r1,r2):=h
 clear h
 obtain ⟨y2,hy2⟩ : ∃ y_ : List Int,y_ = (([] : List Int)):=⟨_,rfl⟩
 replace H : ((spec_reader_one.f k s0_0 s0_1 (([2,3,1,4,0,7] : List Int))).bind fun bt8=>(spec_someCatches.l0 k y2 bt8.1 s0_0 bt8.2 l1_0)) = some (r1,r2):=by first | (rw [hy2];with_reducible exact H) | (have H2_:=(Option.bind_some _ _).symm.trans H;rw [hy2];with_reducible exact H2_) | (have H2_:=(Option.bind_some _ _).symm.trans H;with_reducible exact H2_) | with_reducible exact H | (rw [hy2];exact H) | exact H
 have Ny2:=a0_ hy2
 clear hy2
 obtain ⟨y5,hy5⟩ : ∃ y_ : List Int,y_ = (([2,3,1,4,0,7] : List Int)):=⟨_,rfl⟩
 replace H : ((spec_reader_one.f k s0_0 s0_1 y5).bind fun bt8=>(spec_someCatches.l0 k y2 bt8.1 s0_0 bt8.2 l1_0)) = some (r1,r2):=by first | (rw [hy5];with_reducible exact H) | (have H2_:=(Option.bind_some _ _).symm.trans H;rw [hy5];with_reducible exact H2_) | (have H2_:=(Option.bind_some _ _).symm.trans H;with_reducible exact H2_) | with_reducible exact H | (rw [hy5];exact H) | exact H
 have Ny5:=a0_ hy5
 clear hy5
 replace H:=Option.bind_eq_some_iff.mp H
 obtain ⟨⟨t8,t9⟩,A30,H⟩:=H
 replace H : (spec_someCatches.l0 k y2 t8 s0_0 t9 l1_0) = some (r1,r2):=H
 have A3:=a0_ A30
 clear A30
 have H':=a0_ H
 clear H
 go_enter Try.func52,Try.ntmps52
 go_wp2_with (first | ((with_reducible refine gate_dst (N:=3) rfl ?_);refine box_event ?hg (N:=3) ?hd (cs:=#[.slice A1_0 l1_0.length c1_0]) (t:=25) ?hr ?_;(case hd=>rfl);(case hg=>rfl);(case hr=>first | (go_simp;done) | (go_simp;rfl));intro gb1 hg w4 hbox hb;have n0_:=a0_ (IsS81.below is0_ hb);have n1_:=a0_ (KeepBut.trans (w:=w) hk_ (KeepBut.of_below hb g none) (.inl rfl));have n2_:=a0_ (below_step hbi0_ hb);have n3_:=a0_ (hbox);have n4_:=a0_ ((by rw [hg];exact (keep_size (w:=w) (g:=g) (row:=none) hk_) : w.heap.size ≤ gb1));have n5_:=a0_ ((Nat.le_trans HW0.out (by rw [hg];exact (keep_size (w:=w) (g:=g) (row:=none) hk_) : w.heap.size ≤ gb1) : w0.heap.size ≤ gb1));have n6_:=a0_ ((by rw [hg];exact Nat.ne_of_lt (IsS81.lt (is0_ : IsS81 w0 _ g s0_0 s0_1)) : g ≠ gb1));have n7_:=a0_ ((by rw [hg];exact Nat.ne_of_gt (IsS81.lt (is0_ : IsS81 w0 _ g s0_0 s0_1)) : gb1 ≠ g));clear HI0 HK HB;have HI0:=n0_;have HK:=n1_;have HB:=n2_;have BK1:=n3_;have GW1:=n4_;have GE1:=n5_;have NB0_1:=n6_;have NB1_0:=n7_;clear n0_ n1_ n2_ n3_ n4_ n5_ n6_ n7_;clear hb hbox hg) | ((with_reducible refine gate_dst (N:=7) rfl ?_);refine Kd.R_lit (Kd.int .i64) _ 3 ?hg (N:=7) ?hd (xs:=([] : List Int)) (inner:=[]) (ok:=fun _=>True) (okp:=fun _=>True) ?hr ?hp (fun _ hk=>hk) trivial (Below.refl _ _) (Nat.le_refl _) (by simp) ?_;(case hd=>rfl);(case hg=>rfl);(case hr=>first | (go_simp;done) | (go_simp;rfl));(case hp=>exact (Reps.none _ _));intro v3 w5 ho6 hb hg_ hnew_;clear hg_ hnew_;(first | rw [← Ny2.out] at ho6 | (simp only [Int.reduceToNat] at ho6;rw [← Ny2.out] at ho6));have n0_:=a0_ (Kd.R_lower ho6 (keep_size (w:=w) (g:=g) (row:=none) hk_));have n1_:=a0_ (IsS81.below is0_ hb);have n2_:=kb_ BK1 hb;have n3_:=a0_ (KeepBut.trans (w:=w) hk_ (KeepBut.of_below hb g none) (.inl rfl));have n4_:=a0_ (below_step hbi0_ hb);clear HI0 BK1;clear HK HB;have HO4:=n0_;have HI0:=n1_;have BK1:=n2_;have HK:=n3_;have HB:=n4_;clear n0_ n1_ n2_ n3_ n4_;clear hb ho6) | ((with_reducible refine gate_dst (N:=9) rfl ?_);refine Kd.R_lit (Kd.int .i64) _ 3 ?hg (N:=9) ?hd (xs:=([2,3,1,4,0,7] : List Int)) (inner:=[.int .i64 2,.int .i64 3,.int .i64 1,.int .i64 4,.int .i64 0,.int .i64 7]) (ok:=fun _=>True) (okp:=fun _=>True) ?hr ?hp (fun _ hk=>hk) trivial (Below.refl _ _) (Nat.le_refl _) (by simp) ?_;(case hd=>rfl);(case hg=>rfl);(case hr=>first | (go_simp;done) | (go_simp;rfl));(case hp=>exact (Reps.one (show Kd.M (Kd.int .i64) _ _ _ 2 [.int .i64 2] from rfl) (Reps.one (show Kd.M (Kd.int .i64) _ _ _ 3 [.int .i64 3] from rfl) (Reps.one (show Kd.M (Kd.int .i64) _ _ _ 1 [.int .i64 1] from rfl) (Reps.one (show Kd.M (Kd.int .i64) _ _ _ 4 [.int .i64 4] from rfl) (Reps.one (show Kd.M (Kd.int .i64) _ _ _ 0 [.int .i64 0] from rfl) (Reps.one (show Kd.M (Kd.int .i64) _ _ _ 7 [.int .i64 7] from rfl) (Reps.none _ _))))))));intro v6 w7 ho8 hb hg_ hnew_;clear hg_ hnew_;(first | rw [← Ny5.out] at ho8 | (simp only [Int.reduceToNat] at ho8;rw [← Ny5.out] at ho8));have n0_:=a0_ (Kd.R_elder' (rr_ HO4.out) (Kd.R_base ho8) hb);have n1_:=a0_ (Kd.R_lower (Kd.R_new' ho8 (Kd.R_lt (rr_ HO4.out))) (keep_size (w:=w) (g:=g) (row:=none) hk_));have n2_:=a0_ (IsS81.below is0_ hb);have n3_:=kb_ BK1 hb;have n4_:=a0_ (KeepBut.trans (w:=w) hk_ (KeepBut.of_below hb g none) (.inl rfl));have n5_:=a0_ (below_step hbi0_ hb);clear HO4 HI0;clear BK1 HK HB;have HO4:=n0_;have HO7:=n1_;have HI0:=n2_;have BK1:=n3_;have HK:=n4_;have HB:=n5_;clear n0_ n1_ n2_ n3_ n4_ n5_;clear hb ho8;obtain ⟨Ao9,co9,eo9⟩:=Kd.R_slice HO7.out;subst eo9) | ((with_reducible refine gate_callee (f:=64) rfl ?_);refine goesL_ (some 10) rfl rfl Try.func64 (by kernel_rfl) rfl #[.pointer (some ⟨g,0,none⟩),.slice Ao9 y5.length co9] rfl lm_ ?_;(with_reducible refine (spec_reader_one.calls k g s0_0 s0_1 _ _ y5 t8 t9 w0 _ ?side1 ?side2 ?side3 ?side4 ?side5 A3.out).mono ?_);(case side1=>exact is0_);(case side2=>exact hbi0_);(case side3=>exact cc_ (Kd.R_reads' HO7.out).2.2);(case side4=>exact (Kd.R_reads' HO7.out).2.1);(case side5=>exact far_slice (IsS81.own_ne HI0.out HO7.out (by decide)));rintro e w10 ⟨rfl,hi,hb,hk⟩;refine ⟨_,rfl,?_⟩;replace BK1:=kk_ hk BK1 NB1_0;replace HO4:=a0_ (Kd.R_mono (Kd.R_keep (IsS81.apart (is0_ : IsS81 w0 _ g s0_0 s0_1) (rr_ HO4.out) (by decide)) hk (fun _ h=>h.2)) (fun _ h=>h.1));replace HO7:=a0_ (Kd.R_mono (Kd.R_keep (IsS81.apart (is0_ : IsS81 w0 _ g s0_0 s0_1) (rr_ HO7.out) (by decide)) hk (fun _ h=>h.2)) (fun _ h=>h.1));replace HK:=a0_ (KeepBut.trans (w:=w) hk_ hk (.inl rfl));replace HI0:=a0_ (hi);replace HB:=a0_ (hb);(try clear hb);(try clear hb2);(try clear hk);(try clear hi)))
 go_loopg [5,6] k (fun kq v5 v6 w'=>∃ (x5_1 : List Int) (x6_1 : Int) (x1001_1 : Int),v6 = .int .i64 x6_1 ∧ Aside0 (spec_someCatches.l0 kq x5_1 x6_1 s0_0 x1001_1 l1_0 = some (r1,r2)) ∧ Aside0 (kq ≤ k) ∧ Aside0 (Kd.R (Kd.int .i64) 3 w' w.heap.size (fun _=>True) v5 x5_1) ∧ Aside0 (w'.heap[gb1]? = some (.cells #[(.slice A1_0 l1_0.length c1_0)] 25 (0,0))) ∧ Aside0 (IsS81 w0 w' g s0_0 x1001_1) ∧ Aside0 (KeepBut w w' g none) ∧ Aside0 (Below w0.heap.size w0 w'))
 case atStart=>exact ⟨(y2),(t8),(t9),(by first | rfl | (simp;done) | (simp [*];done)),H',⟨Nat.le_refl _⟩,⟨by (with_reducible repeat (first | apply Kd.R_alloc | apply Kd.R_drewN | apply Kd.R_drew));exact Kd.R_mono HO4.out (fun _ hk=>trivial)⟩,⟨by (with_reducible repeat (first | refine blk_drewN ?_ _ | refine blk_drew ?_ | refine blk_alloc ?_ _));exact BK1.out⟩,⟨is0_⟩,⟨hk_⟩,⟨hbi0_⟩⟩
 case round =>
  clear H'
  try clear c1
  try clear p2
  try clear c5
  try clear c6
  obtain ⟨x5_1,x6_1,x1001_1,rfl,HA,HK1,HO_5,BK1,HI0,HK,HB⟩:=hrel
  cases gk with
  | zero=>exact absurd HA.out (by simp [spec_someCatches.l0])
  | succ k1 =>
   have H:=HA.out
   clear HA
   simp only [spec_someCatches.l0] at H
   by_cases c11 : x6_1 > 0
   ·rw [if_pos c11] at H
    have c11b0 : decide (0 < x6_1) = true:=decide_eq_true c11
    clear c11
    replace H:=Option.bind_eq_some_iff.mp H
    obtain ⟨⟨t10,t11⟩,A120,H⟩:=H
    try dsimp only at H
    have A12:=a0_ A120
    clear A120
    by_cases c13 : x5_1.length < 17592186044416
    ·rw [if_pos c13] at H
     have LMc13:=a0_ c13
     clear c13
     obtain ⟨y12,hy12⟩ : ∃ y_ : List Int,y_ = (x5_1 ++ [t10]):=⟨_,rfl⟩
     replace H : (spec_someCatches.l0 k1 y12 (wrap64 (x6_1 - 1)) s0_0 t11 l1_0) = some (r1,r2):=by first | (rw [hy12];with_reducible exact H) | (have H2_:=(Option.bind_some _ _).symm.trans H;rw [hy12];with_reducible exact H2_) | (have H2_:=(Option.bind_some _ _).symm.trans H;with_reducible exact H2_) | with_reducible exact H | (rw [hy12];exact H) | exact H
     have Ny12:=a0_ hy12
     clear hy12
     have H':=a0_ H
     clear H
     have hnb14:=NB1_0.out
     have hnc14:=NB0_1.out
     have hcz15_0 : wr.cell? ⟨gb1,0,none⟩ = some (.slice A1_0 l1_0.length c1_0):=(blk_cell BK1.out 0).trans rfl
     have hfz15_0:=blk_frozen BK1.out 0
     go_wp2_with (first | ((with_reducible refine gate_callee (f:=63) rfl ?_);refine goesL_ (some 20) rfl rfl Try.func63 (by kernel_rfl) rfl #[.pointer (some ⟨g,0,none⟩),.int .i64 (l1_0.length : Int)] rfl lm_ ?_;(with_reducible refine (spec_reader_pick.calls k1 g s0_0 x1001_1 (l1_0.length : Int) t10 t11 w0 _ ?side1 ?side2 A12.out).mono ?_);(case side1=>exact is0_);(case side2=>exact hbi0_);rintro e w16 ⟨rfl,hi,hb,hk⟩;refine ⟨_,rfl,?_⟩;replace HO_5:=a0_ (Kd.R_mono (Kd.R_keep (IsS81.apart (is0_ : IsS81 w0 _ g s0_0 x1001_1) (rr_ HO_5.out) (by decide)) hk (fun _ h=>h.2)) (fun _ h=>h.1));replace BK1:=kk_ hk BK1 NB1_0;replace HK:=a0_ (KeepBut.trans (w:=w) hk_ hk (.inl rfl));replace HI0:=a0_ (hi);replace HB:=a0_ (hb);(try clear hb);(try clear hb2);(try clear hk);(try clear hi)) | ((with_reducible refine gate_builtin (b:=.append) (xs:=#[.tmp 15,.tmp 21]) rfl ?_);at_builtin;refine Kd.R_append (Kd.int .i64) w.heap.size rfl (.tmp 15) (.tmp 21) 49 3 (.int .i64 0) 8 rfl Try.underlying49 info3 rfl (by decide) (by omega) u5 x5_1 t10 [.int .i64 t10] (fun _=>True) (fun _=>False) rfl rfl ?aP (fun _ hk=>hk.elim) ?aF ?aO (Below.refl _ _) ?aS ?aL ?_;(case aP=>exact rfl);(case aF=>exact (fun _ _=>trivial));(case aO=>exact (rr_ HO_5.out));(case aS=>exact (keep_size (w:=w) (g:=g) (row:=none) hk_));(case aL=>have:=LMc13.out;omega);intro v13 w17 ho hb hg hat;rw [← Ny12.out] at ho;have n0_:=a0_ (blk_grown (bb_ BK1.out) hg (Kd.R_ne HO_5.out BK1.out (by decide)));have n1_:=a0_ (IsS81.grown is0_ hg (IsS81.own_ne HI0.out HO_5.out (by decide)));have n2_:=a0_ (below_weaken hbi0_ HL.out hb);have n3_:=a0_ (KeepBut.trans (w:=w) hk_ (KeepBut.of_grown hg g) (Kd.R_base2 HO_5.out));have n4_:=a0_ (ho);clear BK1 HI0;clear HB HK HO_5;have BK1:=n0_;have HI0:=n1_;have HB:=n2_;have HK:=n3_;have HO14:=n4_;clear n0_ n1_ n2_ n3_ n4_;clear ho hb hg hat))
     go_roundg k1
     case measure=>have:=HK1.out;omega
     case rel=>exact ⟨(y12),(wrap64 (x6_1 - 1)),(t11),(by first | rfl | (simp;done) | (simp [*];done)),H',⟨by have:=HK1.out;omega⟩,⟨by (with_reducible repeat (first | apply Kd.R_alloc | apply Kd.R_drewN | apply Kd.R_drew));exact HO14.out⟩,⟨by (with_reducible repeat (first | refine blk_drewN ?_ _ | refine blk_drew ?_ | refine blk_alloc ?_ _));exact BK1.out⟩,⟨is0_⟩,⟨hk_⟩,⟨hbi0_⟩⟩
    ·rw [if_neg c13] at H
     exact absurd H (by simp)
   ·rw [if_neg c11] at H
    have c11b0 : decide (0 < x6_1) = false:=decide_eq_false c11
    clear c11
    replace H:=Option.bind_eq_some_iff.mp H
    obtain ⟨⟨t15,t16⟩,A180,H⟩:=H
    try dsimp only at H
    have A18:=a0_ A180
    clear A180
    by_cases c19 : t15 = 0
    ·rw [if_pos c19] at H
     have c19b0 : (t15 == 0) = true:=beq_iff_eq.mpr c19
     have c19b1 : (t15 != 0) = false:=bne_eq_false_iff_eq.mpr c19
     clear c19
     replace H:=Option.bind_eq_some_iff.mp H
     obtain ⟨⟨t17,t18⟩,A200,H⟩:=H
     try dsimp only at H
     have A20:=a0_ A200
     clear A200
     by_cases c21 : x5_1.length < 17592186044416
     ·rw [if_pos c21] at H
      have LMc21:=a0_ c21
      clear c21
      obtain ⟨y19,hy19⟩ : ∃ y_ : List Int,y_ = (x5_1 ++ [t17]):=⟨_,rfl⟩
      replace H : (some (y19,t18)) = some (r1,r2):=by first | (rw [hy19];with_reducible exact H) | (have H2_:=(Option.bind_some _ _).symm.trans H;rw [hy19];with_reducible exact H2_) | (have H2_:=(Option.bind_some _ _).symm.trans H;with_reducible exact H2_) | with_reducible exact H | (rw [hy19];exact H) | exact H
      have Ny19:=a0_ hy19
      clear hy19
      simp only [Option.some.injEq,Prod.mk.injEq] at H
      obtain ⟨rfl,rfl⟩:=H
      go_wp2_with (first | ((with_reducible refine gate_callee (f:=63) rfl ?_);refine goesL_ (some 24) rfl rfl Try.func63 (by kernel_rfl) rfl #[.pointer (some ⟨g,0,none⟩),.int .i64 16] rfl lm_ ?_;(with_reducible refine (spec_reader_pick.calls k1 g s0_0 x1001_1 16 t15 t16 w0 _ ?side1 ?side2 A18.out).mono ?_);(case side1=>exact is0_);(case side2=>exact hbi0_);rintro e w22 ⟨rfl,hi,hb,hk⟩;refine ⟨_,rfl,?_⟩;replace HO_5:=a0_ (Kd.R_mono (Kd.R_keep (IsS81.apart (is0_ : IsS81 w0 _ g s0_0 x1001_1) (rr_ HO_5.out) (by decide)) hk (fun _ h=>h.2)) (fun _ h=>h.1));replace BK1:=kk_ hk BK1 NB1_0;replace HK:=a0_ (KeepBut.trans (w:=w) hk_ hk (.inl rfl));replace HI0:=a0_ (hi);replace HB:=a0_ (hb);(try clear hb);have hnb23:=NB1_0.out;have hnc23:=NB0_1.out;have hcz24_0 : w22.cell? ⟨gb1,0,none⟩ = some (.slice A1_0 l1_0.length c1_0):=(blk_cell BK1.out 0).trans rfl;have hfz24_0:=blk_frozen BK1.out 0) | ((with_reducible refine gate_callee (f:=72) rfl ?_);refine goesL_ (some 29) rfl rfl Try.func72 (by kernel_rfl) rfl #[.pointer (some ⟨g,0,none⟩),.agg #[.slice A1_0 l1_0.length c1_0]] rfl lm_ ?_;(with_reducible refine (spec_aClass.calls k1 g s0_0 t16 _ _ l1_0 t17 t18 w0 _ ?side1 ?side2 ?side3 ?side4 A20.out).mono ?_);(case side1=>exact is0_);(case side2=>exact hbi0_);(case side3=>exact Kd.C_foot_step HR1_0.out hk_);(case side4=>exact HC1_0.out);rintro e w25 ⟨rfl,hi,hb,hk⟩;refine ⟨_,rfl,?_⟩;replace HO_5:=a0_ (Kd.R_mono (Kd.R_keep (IsS81.apart (is0_ : IsS81 w0 _ g s0_0 t16) (rr_ HO_5.out) (by decide)) hk (fun _ h=>h.2)) (fun _ h=>h.1));replace BK1:=kk_ hk BK1 NB1_0;replace HK:=a0_ (KeepBut.trans (w:=w) hk_ hk (.inl rfl));replace HI0:=a0_ (hi);replace HB:=a0_ (hb);(try clear hb);(try clear hb2);(try clear hk);(try clear hi)) | ((with_reducible refine gate_builtin (b:=.append) (xs:=#[.tmp 26,.tmp 30]) rfl ?_);at_builtin;refine Kd.R_append (Kd.int .i64) w.heap.size rfl (.tmp 26) (.tmp 30) 49 3 (.int .i64 0) 8 rfl Try.underlying49 info3 rfl (by decide) (by omega) u5 x5_1 t17 [.int .i64 t17] (fun _=>True) (fun _=>False) rfl rfl ?aP (fun _ hk=>hk.elim) ?aF ?aO (Below.refl _ _) ?aS ?aL ?_;(case aP=>exact rfl);(case aF=>exact (fun _ _=>trivial));(case aO=>exact (rr_ HO_5.out));(case aS=>exact (keep_size (w:=w) (g:=g) (row:=none) hk_));(case aL=>have:=LMc21.out;omega);intro v20 w26 ho hb hg hat;rw [← Ny19.out] at ho;have n0_:=a0_ (blk_grown (bb_ BK1.out) hg (Kd.R_ne HO_5.out BK1.out (by decide)));have n1_:=a0_ (IsS81.grown is0_ hg (IsS81.own_ne HI0.out HO_5.out (by decide)));have n2_:=a0_ (below_weaken hbi0_ HL.out hb);have n3_:=a0_ (KeepBut.trans (w:=w) hk_ (KeepBut.of_grown hg g) (Kd.R_base2 HO_5.out));have n4_:=a0_ (ho);clear BK1 HI0;clear HB HK HO_5;have BK1:=n0_;have HI0:=n1_;have HB:=n2_;have HK:=n3_;have HO21:=n4_;clear n0_ n1_ n2_ n3_ n4_;clear ho hb hg hat))
      go_ret
      exact ⟨_,by first | rfl | (simp [errW_none,errW_some] <;> rfl) | (simp [*,errW_none,errW_some] <;> rfl),by (with_reducible repeat (first | apply Kd.R_alloc | apply Kd.R_drewN | apply Kd.R_drew));exact HO21.out,is0_,hbi0_,hk_⟩
     ·rw [if_neg c21] at H
      exact absurd H (by simp)
    ·rw [if_neg c19] at H
     have c19b0 : (t15 == 0) = false:=beq_eq_false_iff_ne.mpr c19
     have c19b1 : (t15 != 0) = true:=bne_iff_ne.mpr c19
     simp only [Option.some.injEq,Prod.mk.injEq] at H
     obtain ⟨rfl,rfl⟩:=H
     go_wp2_with (first | ((with_reducible refine gate_callee (f:=63) rfl ?_);refine goesL_ (some 24) rfl rfl Try.func63 (by kernel_rfl) rfl #[.pointer (some ⟨g,0,none⟩),.int .i64 16] rfl lm_ ?_;(with_reducible refine (spec_reader_pick.calls k1 g s0_0 x1001_1 16 t15 t16 w0 _ ?side1 ?side2 A18.out).mono ?_);(case side1=>exact is0_);(case side2=>exact hbi0_);rintro e w27 ⟨rfl,hi,hb,hk⟩;refine ⟨_,rfl,?_⟩;replace HO_5:=a0_ (Kd.R_mono (Kd.R_keep (IsS81.apart (is0_ : IsS81 w0 _ g s0_0 x1001_1) (rr_ HO_5.out) (by decide)) hk (fun _ h=>h.2)) (fun _ h=>h.1));replace BK1:=kk_ hk BK1 NB1_0;replace HK:=a0_ (KeepBut.trans (w:=w) hk_ hk (.inl rfl));replace HI0:=a0_ (hi);replace HB:=a0_ (hb);(try clear hb);(try clear hb2);(try clear hk);(try clear hi)))
     go_ret
     exact ⟨_,by first | rfl | (simp [errW_none,errW_some] <;> rfl) | (simp [*,errW_none,errW_some] <;> rfl),by (with_reducible repeat (first | apply Kd.R_alloc | apply Kd.R_drewN | apply Kd.R_drew));exact HO_5.out,is0_,hbi0_,hk_⟩
theorem spec_someCatches_l0 (b : List Int) (hb : byL b) (t : List Cls) : ∀ (d : Nat) (q : Int) (l : List Int),0 ≤ q → q + d + 10 ≤ 1099511600000 → l.length + d ≤ 1000 → ∃ l' q',Ev (fun k=>spec_someCatches.l0 k l (d : Int) b q t) (l',q') ∧ q ≤ q' ∧ q' ≤ q + d + 3 ∧ l'.length ≤ l.length + d + 1:=by
 intro d
 induction d with
 | zero =>
  intro q l h0 h1 hl
  obtain ⟨x,hx,_⟩:=spec_pick_ev b q 16 hb h0 (by omega)
  by_cases c0 : x = 0
  ·obtain ⟨a,r,ha,r1,r2,_⟩:=spec_aClass_ev b (q + 1) t hb (by omega) (by omega)
   refine ⟨l ++ [a],r,Ev.succ ?_,by omega,by omega,by simp⟩
   simp only [spec_someCatches.l0]
   exact Ev.neg (by omega) (Ev.bind hx (Ev.pos c0 (Ev.bind ha (Ev.pos (by omega) (Ev.const rfl)))))
  ·refine ⟨l,q + 1,Ev.succ ?_,by omega,by omega,by omega⟩
   simp only [spec_someCatches.l0]
   exact Ev.neg (by omega) (Ev.bind hx (Ev.neg c0 (Ev.const rfl)))
 | succ d ih =>
  intro q l h0 h1 hl
  obtain ⟨x,hx,_⟩:=spec_pick_ev b q (t.length : Int) hb h0 (by omega)
  obtain ⟨l',q',he,a1,a2,a3⟩:=ih (q + 1) (l ++ [x]) (by omega) (by omega) (by simp;omega)
  have ew : wrap64 (((d + 1 : Nat) : Int) - 1) = (d : Int):=by rw [wrap_in (by omega) (by omega)];omega
  rw [List.length_append,List.length_singleton] at a3
  refine ⟨l',q',Ev.succ ?_,by omega,by omega,by omega⟩
  simp only [spec_someCatches.l0,ew]
  exact Ev.pos (by omega) (Ev.bind hx (Ev.pos (by omega) he))
theorem spec_someCatches_ev (b : List Int) (p : Int) (t : List Cls) (hb : byL b) (h0 : 0 ≤ p) (hp : p ≤ 1099511500000) : ∃ l q,Ev (fun k=>spec_someCatches.f k b p t) (l,q) ∧ p ≤ q ∧ q ≤ p + 20 ∧ l.length ≤ 8:=by
 obtain ⟨n,hn,hnm⟩:=spec_one_ev b p [2,3,1,4,0,7] hb h0 (by omega) (by simp)
 have hr : 0 ≤ n ∧ n ≤ 7:=by
  simp only [List.mem_cons,List.not_mem_nil,or_false] at hnm
  omega
 obtain ⟨m,rfl⟩:=Int.eq_ofNat_of_zero_le hr.1
 obtain ⟨l,q,he,a1,a2,a3⟩:=spec_someCatches_l0 b hb t m (p + 1) [] (by omega) (by omega) (by simp;omega)
 have a3' : l.length ≤ 0 + m + 1:=a3
 exact ⟨l,q,Ev.bind hn he,by omega,by omega,by omega⟩
end Go.Proofs.Ytfphcdbnnienhaa.P
namespace Go.Proofs.Ytfphcdbnnienhaa.P
open Go.RowKit Go.Proofs.YtfphcdbnnienhaaW.PrintWords Go.Proofs.YtfphcdbnnienhaaW.PrintLast Go.Proofs.YtfphcdbnnienhaaW.PrintMore
attribute [local go_sem] max2_int min2_int max_two min_two max_three min_three max_four min_four
set_option linter.unusedVariables false
set_option linter.unusedSimpArgs false
def spec_DrawHandleGroup.f (k : Nat) (l0 : List Int) : Option ((List (S85)) × (List (S47)) × List Int):=(spec_newReader.f l0).bind fun bt2=>((spec_someGroup.f k bt2.1 bt2.2).bind fun bt5=>((spec_someCatches.f k bt2.1 bt5.2.2 bt5.1).bind fun bt13=>(some (bt5.1,bt5.2.1,bt13.1))))
theorem spec_DrawHandleGroup.mono : ∀ a0 k,LeO (spec_DrawHandleGroup.f k a0) (spec_DrawHandleGroup.f (k + 1) a0):=by
 intro a0 k
 unfold spec_DrawHandleGroup.f
 repeat' first
   | (with_reducible exact spec_someCatches.mono _ _ _ _)
   | (with_reducible exact spec_someGroup.mono _ _ _)
   | (with_reducible exact LeO.refl _)
   | (with_reducible exact LeO.none _)
   | (with_reducible refine LeO.ite ?_ ?_)
   | (with_reducible refine LeO.bind ?_ (fun _=>?_))
   | exact spec_someCatches.mono _ _ _ _
   | exact spec_someGroup.mono _ _ _
   | exact LeO.none _
   | refine LeO.ite ?_ ?_
   | refine LeO.bind ?_ (fun _=>?_)
def spec_DrawHandleGroup.T3 : Bool × List (List Nat × List Nat):=(true,[([],[]),([],[]),([],[]),([],[]),([2,3],[2,3]),([0,4,0],[0]),([1,5,0,1,5],[1]),([4,6,0,1,2,3,4,5,6],[4])])
def spec_DrawHandleGroup.B3 : List Nat:=[0,0,0,0,12,29,63,127]
theorem spec_DrawHandleGroup.tab3 : rtab .any (opsOf Try.f28 3) = spec_DrawHandleGroup.T3:=by kernel_rfl
theorem spec_DrawHandleGroup.bits3 : waitsOk spec_DrawHandleGroup.T3.2 spec_DrawHandleGroup.B3 = true:=by kernel_rfl
set_option maxHeartbeats 8000000 in
set_option maxRecDepth 100000 in
theorem spec_DrawHandleGroup.calls (k : Nat) (A0 : Option Addr) (c0 : Nat) (l0 : List Int) (r1 : List (S85)) (r2 : List (S47)) (r3 : List Int) (w : World) (hr0 : Kd.C (Kd.int .u8) w A0 l0.length l0) (hc0 : l0.length ≤ c0) (h : spec_DrawHandleGroup.f k l0 = some (r1,r2,r3)) :
  Calls Try.prog 28 #[.slice A0 l0.length c0] w fun e w'=>∃ v0_ v1_ v2_ : Value,e = .returned (.tuple #[.agg #[v0_],v1_,v2_]) ∧ Kd.R k85 85 w' w.heap.size (fun _=>True) v0_ r1 ∧ Kd.R k47 47 w' w.heap.size (fun _=>True) v1_ r2 ∧ Kd.R (Kd.int .i64) 3 w' w.heap.size (fun _=>True) v2_ r3 ∧ Below w.heap.size w w':=by
 have hu25:=Try.underlying25
 have HR0:=a0_ hr0
 have HC0:=a0_ hc0
 clear hr0 hc0
 have HB:=a0_ (Below.refl w.heap.size w)
 have H : ((spec_newReader.f l0).bind fun bt2=>((spec_someGroup.f k bt2.1 bt2.2).bind fun bt5=>((spec_someCatches.f k bt2.1 bt5.2.2 bt5.1).bind fun bt13=>(some (bt5.1,bt5.2.1,bt13.1))))) = some (r1,r2,r3):=h
 clear h
 replace H:=Option.bind_eq_some_iff.mp H
 obtain ⟨⟨t2,t3⟩,A20,H⟩:=H
 try dsimp only at H
 have A2:=a0_ A20
 clear A20
 replace H:=Option.bind_eq_some_iff.mp H
 obtain ⟨⟨t5,t8,t11⟩,A30,H⟩:=H
 try dsimp only at H
 have A3:=a0_ A30
 clear A30
 replace H:=Option.bind_eq_some_iff.mp H
 obtain ⟨⟨t13,t16⟩,A40,H⟩:=H
 replace H : (some (t5,t8,t13)) = some (r1,r2,r3):=H
 have A4:=a0_ A40
 clear A40
 simp only [Option.some.injEq,Prod.mk.injEq] at H
 obtain ⟨rfl,rfl,rfl⟩:=H
 go_enter Try.func28,Try.ntmps28
 try go_wp2_with (first | ((with_reducible refine gate_dst (N:=2) rfl ?_);refine box_event ?hg (N:=2) ?hd (cs:=#[.slice none 0 0]) (t:=25) ?hr ?_;(case hd=>rfl);(case hg=>rfl);(case hr=>first | (go_simp;done) | (go_simp;rfl));intro gb1 hg w5 hbox hb;have BK1:=a0_ (hbox);have GW1:=a0_ ((by rw [hg];exact (below_size hb_) : w.heap.size ≤ gb1));have GE1:=a0_ ((by rw [hg];exact (below_size hb_) : w.heap.size ≤ gb1));replace HB:=a0_ (below_step hb_ hb);clear hb hbox hg) | ((with_reducible refine gate_callee (f:=37) rfl ?_);refine goesL_ (some 9) rfl rfl Try.func37 (by kernel_rfl) rfl #[.slice A0 l0.length c0] rfl lm_ ?_;(with_reducible refine (spec_newReader.calls _ _ l0 t2 t3 w _ ?side1 ?side2 ?side3 A2.out).mono ?_);(case side1=>exact hb_);(case side2=>exact HR0.out);(case side3=>exact HC0.out);rintro e w6 ⟨g4,rfl,hi,hb,hb2⟩;refine ⟨_,rfl,?_⟩;have n0_:=a0_ (blk_below (bb_ BK1.out) hb2);have n1_:=a0_ (hb);have n2_:=a0_ (hi);have n3_:=a0_ (IsS81.ne_blk hi (blk_below (bb_ BK1.out) hb2) (by decide));have n4_:=a0_ (Ne.symm (IsS81.ne_blk hi (blk_below (bb_ BK1.out) hb2) (by decide)));clear BK1 HB;have BK1:=n0_;have HB:=n1_;have HI4:=n2_;have NB4_1:=n3_;have NB1_4:=n4_;clear n0_ n1_ n2_ n3_ n4_;(try clear hb);(try clear hb2);(try clear hk);(try clear hi)) | ((with_reducible refine gate_callee (f:=36) rfl ?_);refine goesL_ (some 12) rfl rfl Try.func36 (by kernel_rfl) rfl #[.pointer (some ⟨g4,0,none⟩)] rfl lm_ ?_;(with_reducible refine (spec_someGroup.calls k g4 t2 t3 t5 t8 t11 w _ ?side1 ?side2 A3.out).mono ?_);(case side1=>repeat (first | (with_reducible first | exact HI4.out | apply IsS81.alloc | apply IsS81.drewN | apply IsS81.drew | apply IsS81.set_1 | refine IsS81.far ?_ NB4_1.out _) | exact HI4.out));(case side2=>repeat (first | (with_reducible first | exact HB.out | apply below_alloc | apply pw_below_drewN | apply below_drew1 | refine below_set ?_ (IsS81.ge HI4.out) | refine below_set ?_ GE1.out) | exact HB.out));rintro e w7 ⟨v6,v9,rfl,ho0,ho1,hi,hb,hk⟩;refine ⟨_,rfl,?_⟩;replace BK1:=kk_ hk BK1 NB1_4;have HO7:=a0_ (Kd.R_lower ho0 (below_size (by repeat (first | (with_reducible first | exact HB.out | apply below_alloc | apply pw_below_drewN | apply below_drew1 | refine below_set ?_ (IsS81.ge HI4.out) | refine below_set ?_ GE1.out) | exact HB.out))));have HO10:=a0_ (Kd.R_lower ho1 (below_size (by repeat (first | (with_reducible first | exact HB.out | apply below_alloc | apply pw_below_drewN | apply below_drew1 | refine below_set ?_ (IsS81.ge HI4.out) | refine below_set ?_ GE1.out) | exact HB.out))));replace HI4:=a0_ (hi);replace HB:=a0_ (hb);(try clear hb);(try clear ho0);(try clear ho1)) | ((with_reducible refine gate_dst (N:=6) rfl ?_);refine box_event ?hg (N:=6) ?hd (cs:=#[.slice none 0 0]) (t:=25) ?hr ?_;(case hd=>rfl);(case hg=>rfl);(case hr=>first | (go_simp;done) | (go_simp;rfl));intro gb12 hg w8 hbox hb;have n0_:=rb_ HO7 hb;have n1_:=rb_ HO10 hb;have n2_:=kb_ BK1 hb;have n3_:=a0_ (IsS81.below (by repeat (first | (with_reducible first | exact HI4.out | apply IsS81.alloc | apply IsS81.drewN | apply IsS81.drew | apply IsS81.set_1 | refine IsS81.far ?_ NB4_1.out _) | exact HI4.out)) hb);have n4_:=a0_ (below_step (by repeat (first | (with_reducible first | exact HB.out | apply below_alloc | apply pw_below_drewN | apply below_drew1 | refine below_set ?_ (IsS81.ge HI4.out) | refine below_set ?_ GE1.out) | exact HB.out)) hb);have n5_:=a0_ (hbox);have n6_:=a0_ ((by rw [hg];exact (below_size (by repeat (first | (with_reducible first | exact HB.out | apply below_alloc | apply pw_below_drewN | apply below_drew1 | refine below_set ?_ (IsS81.ge HI4.out) | refine below_set ?_ GE1.out) | exact HB.out))) : w.heap.size ≤ gb12));have n7_:=a0_ ((by rw [hg];exact (below_size (by repeat (first | (with_reducible first | exact HB.out | apply below_alloc | apply pw_below_drewN | apply below_drew1 | refine below_set ?_ (IsS81.ge HI4.out) | refine below_set ?_ GE1.out) | exact HB.out))) : w.heap.size ≤ gb12));have n8_:=a0_ ((by rw [hg];exact Nat.ne_of_lt (blk_lt (bb_ BK1.out)) : gb1 ≠ gb12));have n9_:=a0_ ((by rw [hg];exact Nat.ne_of_gt (blk_lt (bb_ BK1.out)) : gb12 ≠ gb1));have n10_:=a0_ ((by rw [hg];exact Nat.ne_of_lt (IsS81.lt (show IsS81 w _ g4 t2 t11 from by repeat (first | (with_reducible first | exact HI4.out | apply IsS81.alloc | apply IsS81.drewN | apply IsS81.drew | apply IsS81.set_1 | refine IsS81.far ?_ NB4_1.out _) | exact HI4.out))) : g4 ≠ gb12));have n11_:=a0_ ((by rw [hg];exact Nat.ne_of_gt (IsS81.lt (show IsS81 w _ g4 t2 t11 from by repeat (first | (with_reducible first | exact HI4.out | apply IsS81.alloc | apply IsS81.drewN | apply IsS81.drew | apply IsS81.set_1 | refine IsS81.far ?_ NB4_1.out _) | exact HI4.out))) : gb12 ≠ g4));clear HO7 HO10;clear BK1 HI4 HB;have HO7:=n0_;have HO10:=n1_;have BK1:=n2_;have HI4:=n3_;have HB:=n4_;have BK12:=n5_;have GW12:=n6_;have GE12:=n7_;have NB1_12:=n8_;have NB12_1:=n9_;have NB4_12:=n10_;have NB12_4:=n11_;clear n0_ n1_ n2_ n3_ n4_ n5_ n6_ n7_ n8_ n9_ n10_ n11_;clear hb hbox hg;obtain ⟨Ao9,co9,eo9⟩:=Kd.R_slice HO7.out;subst eo9;have hnb10:=NB12_1.out;have hnc10:=NB1_12.out;have hnb11:=NB12_4.out;have hnc11:=NB4_12.out;have hcz12_0 : w8.cell? ⟨gb12,0,none⟩ = some (.slice none 0 0):=(blk_cell BK12.out 0).trans rfl;have hfz12_0:=blk_frozen BK12.out 0))
 have n0_ : Aside0 (Kd.R k85 85 (w8.setCell ⟨gb12,0,none⟩ (.slice Ao9 t5.length co9)) w.heap.size (fun _=>True) (.slice Ao9 t5.length co9) t5):=⟨by (with_reducible repeat (first | apply Kd.R_alloc | apply Kd.R_drewN | apply Kd.R_drew));exact Kd.R_mono (Kd.R_far (p:=⟨gb12,0,none⟩) (Kd.R_types HO7.out BK12.out (by decide)) (fun _ hk=>hk.2) (.slice Ao9 t5.length co9)) (fun _ hk=>trivial)⟩
 have n1_ : Aside0 (Kd.R k47 47 (w8.setCell ⟨gb12,0,none⟩ (.slice Ao9 t5.length co9)) w.heap.size (fun _=>True) v9 t8):=⟨by (with_reducible repeat (first | apply Kd.R_alloc | apply Kd.R_drewN | apply Kd.R_drew));exact Kd.R_mono (Kd.R_far (p:=⟨gb12,0,none⟩) (Kd.R_types HO10.out BK12.out (by decide)) (fun _ hk=>hk.2) (.slice Ao9 t5.length co9)) (fun _ hk=>trivial)⟩
 have n2_ : Aside0 ((w8.setCell ⟨gb12,0,none⟩ (.slice Ao9 t5.length co9)).heap[gb1]? = some (.cells #[.slice none 0 0] 25 (0,0))):=⟨by (with_reducible repeat (first | refine blk_drewN ?_ _ | refine blk_drew ?_ | refine blk_alloc ?_ _));refine blk_far ?_ NB1_12.out _;(with_reducible repeat (first | refine blk_drewN ?_ _ | refine blk_drew ?_ | refine blk_alloc ?_ _));exact BK1.out⟩
 have n3_ : Aside0 ((w8.setCell ⟨gb12,0,none⟩ (.slice Ao9 t5.length co9)).heap[gb12]? = some (.cells #[.slice Ao9 t5.length co9] 25 (0,0))):=⟨by (with_reducible repeat (first | refine blk_drewN ?_ _ | refine blk_drew ?_ | refine blk_alloc ?_ _));refine blk_put (cs:=#[.slice none 0 0]) ?_ 0 _ rfl;(with_reducible repeat (first | refine blk_drewN ?_ _ | refine blk_drew ?_ | refine blk_alloc ?_ _));exact BK12.out⟩
 have n4_ : Aside0 (IsS81 w (w8.setCell ⟨gb12,0,none⟩ (.slice Ao9 t5.length co9)) g4 t2 t11):=⟨by repeat (first | (with_reducible first | exact HI4.out | apply IsS81.alloc | apply IsS81.drewN | apply IsS81.drew | apply IsS81.set_1 | refine IsS81.far ?_ NB4_1.out _ | refine IsS81.far ?_ NB4_12.out _) | exact HI4.out)⟩
 have n5_ : Aside0 (Below w.heap.size w (w8.setCell ⟨gb12,0,none⟩ (.slice Ao9 t5.length co9))):=⟨by repeat (first | (with_reducible first | exact HB.out | apply below_alloc | apply pw_below_drewN | apply below_drew1 | refine below_set ?_ (IsS81.ge HI4.out) | refine below_set ?_ GE1.out | refine below_set ?_ GE12.out) | exact HB.out)⟩
 (try clear HO7)
 (try clear HO10)
 (try clear BK1)
 (try clear BK12)
 (try clear HI4)
 (try clear HB)
 generalize (w8.setCell ⟨gb12,0,none⟩ (.slice Ao9 t5.length co9)) = w13 at n0_ n1_ n2_ n3_ n4_ n5_ ⊢
 have HO7:=n0_
 have HO10:=n1_
 have BK1:=n2_
 have BK12:=n3_
 have HI4:=n4_
 have HB:=n5_
 clear n0_ n1_ n2_ n3_ n4_ n5_
 have n0_:=a0_ (Kd.R_drew HO7.out)
 have n1_:=a0_ (Kd.R_drew HO10.out)
 have n2_:=a0_ (blk_drew BK1.out)
 have n3_:=a0_ (blk_drew BK12.out)
 have n4_:=a0_ (IsS81.drew HI4.out)
 have n5_:=a0_ (below_drew1 HB.out)
 clear HO7
 clear HO10
 clear BK1
 clear BK12
 clear HI4
 clear HB
 have HO7:=n0_
 have HO10:=n1_
 have BK1:=n2_
 have BK12:=n3_
 have HI4:=n4_
 have HB:=n5_
 clear n0_ n1_ n2_ n3_ n4_ n5_
 refine start_ (n:=8) (S:=fun w'=>w'.cell? ⟨gb12,0,none⟩ = some (.slice Ao9 t5.length co9)) (ds:=[]) #[false,false,false,false,false,false,false,false] (by kernel_rfl) rfl rfl ((blk_cell BK12.out 0).trans rfl) (fun hHeld=>?_);refine with_tabW spec_DrawHandleGroup.tab3 spec_DrawHandleGroup.bits3 (fun HT_ HW_=>?_)
 generalize w13.drew = w14 at HO7 HO10 BK1 BK12 HI4 HB hHeld ⊢
 refine pure_ (i:=1) (N:=some 16) (v:=?_) (a':=?_) #[false,true,false,false,false,false,false,false] rfl rfl (any_of HT_.out (by kernel_rfl)) (fun _ _ _ h=>h) (Or.inl ⟨by rfl,?_⟩) ?_ ?_
 rotate_left
 ·intro w'
  go_simp
  with_reducible rfl
 rotate_left
 ·simp only [Act.put,s1_,s2_,s3_,i64_w,i32_w]
  rfl
 refine pure_ (i:=2) (N:=some 17) (v:=?_) (a':=?_) #[false,true,true,false,false,false,false,false] rfl rfl (any_of HT_.out (by kernel_rfl)) (fun _ _ _ h=>h) (Or.inl ⟨by rfl,?_⟩) ?_ ?_
 rotate_left
 ·intro w'
  go_simp
  with_reducible rfl
 rotate_left
 ·simp only [Act.put,s1_,s2_,s3_,i64_w,i32_w]
  rfl
 refine take_ (i:=0) (N:=some 15) (v:=?_) (a':=?_) #[true,true,true,false,false,false,false,false] rfl rfl (take_ofW HT_.out HW_.out (by kernel_rfl)) (fun _ _ _ h=>h) (Or.inl ⟨by rfl,?_⟩) hHeld ?_ ?_
 rotate_left
 ·intro w' s0
  go_simp
  with_reducible rfl
 rotate_left
 ·simp only [Act.put,s1_,s2_,s3_,i64_w,i32_w]
  rfl
 refine take_ (i:=3) (N:=some 18) (v:=?_) (a':=?_) #[true,true,true,true,false,false,false,false] rfl rfl (take_ofW HT_.out HW_.out (by kernel_rfl)) (fun _ _ _ h=>h) (Or.inl ⟨by rfl,?_⟩) hHeld ?_ ?_
 rotate_left
 ·intro w' s0
  go_simp
  with_reducible rfl
 rotate_left
 ·simp only [Act.put,s1_,s2_,s3_,i64_w,i32_w]
  rfl
 refine one_ (i:=4) (N:=some 19) #[true,true,true,true,true,false,false,false] rfl rfl (one_of HT_.out (by kernel_rfl)) (by decide) (fun K hK=>?_)
 refine goes_ Try.func52 (by kernel_rfl) rfl #[.pointer (some ⟨g4,0,none⟩),.agg #[.slice Ao9 t5.length co9]] (by rfl) rfl rfl lm_ ?_
 with_reducible refine (spec_someCatches.calls k g4 t2 t11 _ _ t5 t13 t16 w _ ?side1 ?side2 ?side3 ?side4 A4.out).mono ?_
 (case side1=>repeat (first | (with_reducible first | exact HI4.out | apply IsS81.alloc | apply IsS81.drewN | apply IsS81.drew | apply IsS81.set_1 | refine IsS81.far ?_ NB4_1.out _ | refine IsS81.far ?_ NB4_12.out _) | exact HI4.out))
 (case side2=>repeat (first | (with_reducible first | exact HB.out | apply below_alloc | apply pw_below_drewN | apply below_drew1 | refine below_set ?_ (IsS81.ge HI4.out) | refine below_set ?_ GE1.out | refine below_set ?_ GE12.out) | exact HB.out))
 (case side3=>exact Kd.C_foot_own (IsS81.apart (show IsS81 w _ g4 t2 t11 from by repeat (first | (with_reducible first | exact HI4.out | apply IsS81.alloc | apply IsS81.drewN | apply IsS81.drew | apply IsS81.set_1 | refine IsS81.far ?_ NB4_1.out _ | refine IsS81.far ?_ NB4_12.out _) | exact HI4.out)) (rr_ HO7.out) (by decide)) (fun _ h_=>h_.2))
 (case side4=>exact (Kd.R_reads' HO7.out).2.1)
 rintro e w15 ⟨v14,rfl,ho0,hi,hb,hk⟩
 refine ⟨_,rfl,?_⟩
 have n0_:=kk_ hk BK1 NB1_4
 have n1_:=a0_ (Kd.R_mono (Kd.R_keep (IsS81.apart (show IsS81 w _ g4 t2 t11 from by repeat (first | (with_reducible first | exact HI4.out | apply IsS81.alloc | apply IsS81.drewN | apply IsS81.drew | apply IsS81.set_1 | refine IsS81.far ?_ NB4_1.out _ | refine IsS81.far ?_ NB4_12.out _) | exact HI4.out)) (rr_ HO7.out) (by decide)) hk (fun _ h=>h.2)) (fun _ h=>h.1))
 have n2_:=a0_ (Kd.R_mono (Kd.R_keep (IsS81.apart (show IsS81 w _ g4 t2 t11 from by repeat (first | (with_reducible first | exact HI4.out | apply IsS81.alloc | apply IsS81.drewN | apply IsS81.drew | apply IsS81.set_1 | refine IsS81.far ?_ NB4_1.out _ | refine IsS81.far ?_ NB4_12.out _) | exact HI4.out)) (rr_ HO10.out) (by decide)) hk (fun _ h=>h.2)) (fun _ h=>h.1))
 have n3_:=kk_ hk BK12 NB12_4
 have n4_:=a0_ (Kd.R_lower ho0 (below_size (by repeat (first | (with_reducible first | exact HB.out | apply below_alloc | apply pw_below_drewN | apply below_drew1 | refine below_set ?_ (IsS81.ge HI4.out) | refine below_set ?_ GE1.out | refine below_set ?_ GE12.out) | exact HB.out))))
 have n5_:=a0_ (hb)
 have n6_:=a0_ (hi)
 clear BK1
 clear HO7
 clear HO10
 clear BK12
 clear HB
 clear HI4
 have BK1:=n0_
 have HO7:=n1_
 have HO10:=n2_
 have BK12:=n3_
 have HO15:=n4_
 have HB:=n5_
 have HI4:=n6_
 clear n0_ n1_ n2_ n3_ n4_ n5_ n6_
 (try clear hb)
 (try clear hb2)
 (try clear hk)
 (try clear hi)
 (try clear ho0)
 refine hK.out _ _ ((blk_cell BK12.out 0).trans rfl) (fun hHeld=>?_)
 clear hK K
 refine norm_ (a':=?_) ?_ ?_
 rotate_left
 ·show Act.put _ (some 19) _ = _
  simp only [Act.put,s1_,s2_,s3_,i64_w,i32_w]
  rfl
 refine one_ (i:=5) (N:=none) #[true,true,true,true,true,true,false,false] rfl rfl (one_of HT_.out (by kernel_rfl)) (by decide) (fun K hK=>?_)
 have hs16 : w15.cell? ⟨gb1,0,none⟩ = some (.slice none 0 0):=(blk_cell BK1.out 0).trans rfl
 have hfs16:=blk_frozen BK1.out 0
 have hns16_1:=NB12_1.out
 have hms16_1:=NB1_12.out
 refine skip_ (w1:=?_) (by rfl) rfl ?_ ?_
 rotate_left
 ·go_simp
  rfl
 refine hK.out _ _ (((cell_far (p:=⟨gb1,_,none⟩) NB12_1.out _).trans (hHeld))) (fun hHeld=>?_)
 clear hK K
 refine pure_ (i:=6) (N:=some 3) (v:=?_) (a':=?_) #[true,true,true,true,true,true,true,false] rfl rfl (any_of HT_.out (by kernel_rfl)) (fun _ _ _ h=>h) (Or.inl ⟨by rfl,?_⟩) ?_ ?_
 rotate_left
 ·intro w'
  go_simp
  with_reducible rfl
 rotate_left
 ·simp only [Act.put,s1_,s2_,s3_,i64_w,i32_w]
  rfl
 refine pure_ (i:=7) (N:=some 4) (v:=?_) (a':=?_) #[true,true,true,true,true,true,true,true] rfl rfl (any_of HT_.out (by kernel_rfl)) (fun _ _ _ h=>h) (Or.inl ⟨by rfl,?_⟩) ?_ ?_
 rotate_left
 ·intro w'
  go_simp
  with_reducible rfl
 rotate_left
 ·simp only [Act.put,s1_,s2_,s3_,i64_w,i32_w]
  rfl
 refine done_ (done_of HT_.out (by kernel_rfl)) ?_
 try go_wp2
 refine bodyPost_ret (results_ctt rfl _ _ gb1 25 #[.slice Ao9 t5.length co9] (0,0) _ rfl (by (with_reducible repeat (first | refine blk_drewN ?_ _ | refine blk_drew ?_ | refine blk_alloc ?_ _));refine blk_put (cs:=#[.slice none 0 0]) ?_ 0 _ rfl;(with_reducible repeat (first | refine blk_drewN ?_ _ | refine blk_drew ?_ | refine blk_alloc ?_ _));exact BK1.out) Try.underlying25 rfl (by kernel_rfl)) rfl ?_
 exact ⟨_,_,_,by first | rfl | (simp [errW_none,errW_some] <;> rfl) | (simp [*,errW_none,errW_some] <;> rfl),by (with_reducible repeat (first | apply Kd.R_alloc | apply Kd.R_drewN | apply Kd.R_drew));exact Kd.R_mono (Kd.R_far (p:=⟨gb1,0,none⟩) (Kd.R_types HO7.out BK1.out (by decide)) (fun _ hk=>hk.2) (.slice Ao9 t5.length co9)) (fun _ hk=>trivial),by (with_reducible repeat (first | apply Kd.R_alloc | apply Kd.R_drewN | apply Kd.R_drew));exact Kd.R_mono (Kd.R_far (p:=⟨gb1,0,none⟩) (Kd.R_types HO10.out BK1.out (by decide)) (fun _ hk=>hk.2) (.slice Ao9 t5.length co9)) (fun _ hk=>trivial),by (with_reducible repeat (first | apply Kd.R_alloc | apply Kd.R_drewN | apply Kd.R_drew));exact Kd.R_mono (Kd.R_far (p:=⟨gb1,0,none⟩) (Kd.R_types HO15.out BK1.out (by decide)) (fun _ hk=>hk.2) (.slice Ao9 t5.length co9)) (fun _ hk=>trivial),by repeat (first | (with_reducible first | exact HB.out | apply below_alloc | apply pw_below_drewN | apply below_drew1 | refine below_set ?_ (IsS81.ge HI4.out) | refine below_set ?_ GE1.out | refine below_set ?_ GE12.out) | exact HB.out)⟩
theorem spec_DrawHandleGroup_ev (l : List Int) (hl : ∀ x ∈ l,(Lit.int .u8 x).wf = true) : ∃ t g c,Ev (fun k=>spec_DrawHandleGroup.f k l) (t,g,c) ∧ t.length ≤ 8 ∧ smT t = true ∧ g.length ≤ 16 ∧ c.length ≤ 8:=by
 obtain ⟨b,hn,hb⟩:=spec_newReader_ev l hl
 obtain ⟨t,g,q,he,_,_,a3,a4,a5⟩:=spec_someGroup_ev b 0 hb (by omega) (by omega)
 obtain ⟨c,r,hc,_,_,c3⟩:=spec_someCatches_ev b q t hb (by omega) (by omega)
 exact ⟨t,g,c,Ev.bind (Ev.const hn) (Ev.bind he (Ev.bind hc (Ev.const rfl))),a3,a4,a5,c3⟩
end Go.Proofs.Ytfphcdbnnienhaa.P
namespace Go.Proofs.Ytfphcdbnnienhaa.P
open Go.RowKit Go.Proofs.YtfphcdbnnienhaaW.PrintWords Go.Proofs.YtfphcdbnnienhaaW.PrintLast Go.Proofs.YtfphcdbnnienhaaW.PrintMore
attribute [local go_sem] max2_int min2_int max_two min_two max_three min_three max_four min_four
set_option linter.unusedVariables false
set_option linter.unusedSimpArgs false
def clss (t : List Cls) : List Int:=(List.range t.length).map (fun i : Nat=>(i : Int))
def fil (t : List Cls) (p : Int → Bool) : List Int:=(clss t).filter p
theorem clss_take (t : List Cls) (n : Nat) (hn : n ≤ t.length) : (clss t).take n = (List.range n).map (fun i : Nat=>(i : Int)):=by
 unfold clss
 rw [← List.map_take,List.take_range,Nat.min_eq_left hn]
theorem clss_len (t : List Cls) : (clss t).length = t.length:=by simp [clss]
theorem fil_step (t : List Cls) (p : Int → Bool) (n : Nat) : ((List.range (n + 1)).map (fun i : Nat=>(i : Int))).filter p = ((List.range n).map (fun i : Nat=>(i : Int))).filter p ++ (if p (n : Int) then [(n : Int)] else []):=by
 rw [List.range_succ,List.map_append,List.filter_append]
 congr 1
 cases h : p (n : Int) <;> simp [h]
theorem fil_len (p : Int → Bool) (n : Nat) : (((List.range n).map (fun i : Nat=>(i : Int))).filter p).length ≤ n:=by
 have:=List.length_filter_le p ((List.range n).map (fun i : Nat=>(i : Int)))
 simpa using this
def caughtBy (t : List Cls) (l : List Int) : List Int:=fil t (fun a=>l.any (isA t a))
def okCat (t : List Cls) (l : List Int) : Bool:=vT t && (decide (l.length ≤ 6) && l.all (hasC t))
theorem okCat_parts {t : List Cls} {l : List Int} (h : okCat t l = true) : vT t = true ∧ l.length ≤ 6 ∧ ∀ x ∈ l,0 ≤ x ∧ x < (t.length : Int):=by
 unfold okCat at h
 simp only [Bool.and_eq_true,decide_eq_true_eq,List.all_eq_true] at h
 refine ⟨h.1,h.2.1,fun x hx=>?_⟩
 have:=h.2.2 x hx
 unfold hasC at this
 simpa using this
def caughtP (t : List Cls) (l : List Int) : List Int:=if okCat t l = true then caughtBy t l else []
theorem caughtP_len (t : List Cls) (l : List Int) : (caughtP t l).length ≤ t.length:=by
 unfold caughtP
 split
 ·exact fil_len _ _
 ·simp
def leastP (t : List Cls) (l : List Int) : List Int:=if okCat t l = true then fil t (fun a=>l.contains a && !(l.any fun b=>!decide (b = a) && isA t a b)) else []
theorem leastP_len (t : List Cls) (l : List Int) : (leastP t l).length ≤ t.length:=by
 unfold leastP
 split
 ·exact fil_len _ _
 ·simp
def belowP (t : List Cls) (a : Int) : List Int:=if (vT t && hasC t a) = true then fil t (fun b=>isA t b a) else []
end Go.Proofs.Ytfphcdbnnienhaa.P
namespace Go.Proofs.Ytfphcdbnnienhaa.P
open Go.RowKit Go.Proofs.YtfphcdbnnienhaaW.PrintWords Go.Proofs.YtfphcdbnnienhaaW.PrintLast Go.Proofs.YtfphcdbnnienhaaW.PrintMore
attribute [local go_sem] max2_int min2_int max_two min_two max_three min_three max_four min_four
set_option linter.unusedVariables false
set_option linter.unusedSimpArgs false
def lfB (t : List Cls) (a : Int) (yes : Bool) (p : Prt) : Bool:=!p.f1 && (isA t p.f2 a == yes)
def keepsB (t : List Cls) (g : List Prt) (i : Nat) (a : Int) (yes : Bool) : Bool:=((g.drop i).take (endG g i - i)).any (lfB t a yes)
def selN (t : List Cls) (g : List Prt) (a : Int) (yes : Bool) (n : Nat) : List Prt:=((List.range n).filter (fun i=>keepsB t g i a yes)).map (fun i=>g.getD i z47)
def lfOk (t : List Cls) (g : List Prt) : Prop:=∀ p ∈ g,p.f1 = false → p.f2 < (t.length : Int)
theorem endG_gt (g : List Prt) (i : Nat) : i + 1 ≤ endG g i:=by
 unfold endG
 omega
theorem selN_succ (t : List Cls) (g : List Prt) (a : Int) (yes : Bool) (n : Nat) : selN t g a yes (n + 1) = selN t g a yes n ++ (if keepsB t g n a yes = true then [g.getD n z47] else []):=by
 unfold selN
 rw [List.range_succ,List.filter_append,List.map_append]
 congr 1
 rw [List.filter_cons,List.filter_nil]
 cases h : keepsB t g n a yes <;> rfl
theorem selN_len (t : List Cls) (g : List Prt) (a : Int) (yes : Bool) (n : Nat) : (selN t g a yes n).length ≤ n:=by
 unfold selN
 rw [List.length_map]
 exact Nat.le_trans (List.length_filter_le _ _) (by simp)
theorem selN_any (t : List Cls) (g : List Prt) (a : Int) (yes : Bool) : decide (((selN t g a yes g.length).length : Int) > 0) = g.any (lfB t a yes):=by
 rw [Bool.eq_iff_iff,decide_eq_true_eq,List.any_eq_true]
 unfold selN
 rw [List.length_map]
 constructor
 ·intro h
  obtain ⟨i,hi⟩:=List.exists_mem_of_length_pos (show 0 < ((List.range g.length).filter (fun i=>keepsB t g i a yes)).length by omega)
  have hk:=(List.mem_filter.1 hi).2
  unfold keepsB at hk
  rw [List.any_eq_true] at hk
  obtain ⟨p,hp,hb⟩:=hk
  exact ⟨p,List.mem_of_mem_drop (List.mem_of_mem_take hp),hb⟩
 ·rintro ⟨p,hp,hb⟩
  obtain ⟨i,hi,rfl⟩:=List.getElem_of_mem hp
  have : i ∈ (List.range g.length).filter (fun i=>keepsB t g i a yes):=by
   refine List.mem_filter.2 ⟨by simpa using hi,?_⟩
   unfold keepsB
   rw [List.drop_eq_getElem_cons hi,show endG g i - i = (endG g i - i - 1) + 1 by have:=endG_gt g i;omega,List.take_succ_cons,List.any_cons,hb]
   rfl
  have:=List.length_pos_of_mem this
  omega
end Go.Proofs.Ytfphcdbnnienhaa.P
namespace Go.Proofs.Ytfphcdbnnienhaa.P
open Go.RowKit Go.Proofs.YtfphcdbnnienhaaW.PrintWords Go.Proofs.YtfphcdbnnienhaaW.PrintLast Go.Proofs.YtfphcdbnnienhaaW.PrintMore
attribute [local go_sem] max2_int min2_int max_two min_two max_three min_three max_four min_four
set_option linter.unusedVariables false
set_option linter.unusedSimpArgs false
def keepW (p : Prt → Bool) (g : List Prt) (i : Nat) : Bool:=((g.drop i).take (endG g i - i)).any (fun q=>!q.f1 && p q)
def selW (p : Prt → Bool) (g : List Prt) (n : Nat) : List Prt:=((List.range n).filter (fun i=>keepW p g i)).map (fun i=>g.getD i z47)
theorem selW_succ (p : Prt → Bool) (g : List Prt) (n : Nat) : selW p g (n + 1) = selW p g n ++ (if keepW p g n = true then [g.getD n z47] else []):=by
 unfold selW
 rw [List.range_succ,List.filter_append,List.map_append]
 congr 1
 rw [List.filter_cons,List.filter_nil]
 cases h : keepW p g n <;> rfl
theorem selW_len (p : Prt → Bool) (g : List Prt) (n : Nat) : (selW p g n).length ≤ n:=by
 unfold selW
 rw [List.length_map]
 exact Nat.le_trans (List.length_filter_le _ _) (by simp)
theorem selW_selN (t : List Cls) (a : Int) (yes : Bool) (g : List Prt) (n : Nat) : selW (fun q=>isA t q.f2 a == yes) g n = selN t g a yes n:=rfl
theorem mid_any {p : Prt → Bool} (g : List Prt) (i e : Nat) : ((g.take e).drop i).any p = ((g.drop i).take (e - i)).any p:=by
 rw [List.drop_take]
end Go.Proofs.Ytfphcdbnnienhaa.P
