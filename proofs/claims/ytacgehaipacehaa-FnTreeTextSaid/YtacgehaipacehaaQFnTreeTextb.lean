/- Texts under the proof of FnTreeText: helper words, the functions' contracts and the plain laws. No condition. -/
import Derived.Test.YtacgehaipacehaaQFnTreeTexta
namespace Go.Proofs.Ytacgehaipacehaa.P
open Go.RowKit Go.Proofs.YtacgehaipacehaaW.PrintWords Go.Proofs.YtacgehaipacehaaW.PrintLast Go.Proofs.YtacgehaipacehaaW.PrintMore
attribute [local go_sem] max2_int min2_int max_two min_two max_three min_three max_four min_four
set_option linter.unusedVariables false
set_option linter.unusedSimpArgs false
def spec_someTree.f (k : Nat) (s0_0 : List Int) (s0_1 : Int) : Option ((List (S125)) × Int):=(spec_goodTree.f k s0_0 s0_1).bind fun bt2=>((spec_reader_pick.f k s0_0 bt2.2 (bt2.1.length : Int)).bind fun bt7=>((spec_reader_pick.f k s0_0 bt7.2 24).bind fun bt9=>(if bt9.1 = 0 then ((spec_reader_of.f k s0_0 bt9.2 (([(⟨#[]⟩ : ByteArray),(⟨#[97,110,121]⟩ : ByteArray),(⟨#[65]⟩ : ByteArray),(⟨#[116,111,111,108,111,110,103]⟩ : ByteArray)] : List ByteArray))).bind fun bt14=>(if 0 ≤ bt7.1 then (if bt7.1 < (bt2.1.length : Int) then (some ((bt2.1.set (bt7.1 : Int).toNat (⟨bt14.1,(rd_T125 bt2.1 bt7.1).f1⟩ : S125)),bt14.2)) else (none)) else (none))) else (if bt9.1 = 1 then ((spec_reader_one.f k s0_0 bt9.2 (([bt7.1,(-1),8,(-2)] : List Int))).bind fun bt20=>(if 0 ≤ bt7.1 then (if bt7.1 < (bt2.1.length : Int) then (some ((bt2.1.set (bt7.1 : Int).toNat (⟨(rd_T125 bt2.1 bt7.1).f0,bt20.1⟩ : S125)),bt20.2)) else (none)) else (none))) else (if bt9.1 = 2 then (some (([] : List (S125)),bt9.2)) else (some (bt2.1,bt9.2)))))))
theorem spec_someTree.mono : ∀ a0 a1 k,LeO (spec_someTree.f k a0 a1) (spec_someTree.f (k + 1) a0 a1):=by
 intro a0 a1 k
 unfold spec_someTree.f
 repeat' first
   | (with_reducible exact spec_goodTree.mono _ _ _)
   | (with_reducible exact spec_reader_of.mono _ _ _ _)
   | (with_reducible exact spec_reader_one.mono _ _ _ _)
   | (with_reducible exact spec_reader_pick.mono _ _ _ _)
   | (with_reducible exact LeO.refl _)
   | (with_reducible exact LeO.none _)
   | (with_reducible refine LeO.ite ?_ ?_)
   | (with_reducible refine LeO.bind ?_ (fun _=>?_))
   | exact spec_goodTree.mono _ _ _
   | exact spec_reader_of.mono _ _ _ _
   | exact spec_reader_one.mono _ _ _ _
   | exact spec_reader_pick.mono _ _ _ _
   | exact LeO.none _
   | refine LeO.ite ?_ ?_
   | refine LeO.bind ?_ (fun _=>?_)
def spec_someTree.T5 : Bool × List (List Nat × List Nat):=(true,[([],[]),([0],[0]),([],[]),([],[]),([],[]),([3,4],[3,4]),([1,2,0,1,2,3,4,5],[1,2]),([6,0,1,2,3,4,5],[6]),([7,5,5,0,1,2,3,4,5],[5,7])])
def spec_someTree.B5 : List Nat:=[0,1,0,0,0,24,63,127,255]
theorem spec_someTree.tab5 : rtab .any (opsOf Try.f103 5) = spec_someTree.T5:=by kernel_rfl
theorem spec_someTree.bits5 : waitsOk spec_someTree.T5.2 spec_someTree.B5 = true:=by kernel_rfl
def spec_someTree.T7 : Bool × List (List Nat × List Nat):=(true,[([],[]),([0],[0]),([],[]),([],[]),([],[]),([4],[4]),([3,5],[3,5]),([1,2,0,1,2,3,4,5,6],[1,2]),([7,0,1,2,3,4,5,6],[7]),([8,6,6,0,1,2,3,4,5,6],[6,8])])
def spec_someTree.B7 : List Nat:=[0,1,0,0,0,16,56,127,255,511]
theorem spec_someTree.tab7 : rtab .any (opsOf Try.f103 7) = spec_someTree.T7:=by kernel_rfl
theorem spec_someTree.bits7 : waitsOk spec_someTree.T7.2 spec_someTree.B7 = true:=by kernel_rfl
set_option maxHeartbeats 8000000 in
set_option maxRecDepth 100000 in
theorem spec_someTree.calls (k : Nat) (g : Nat) (s0_0 : List Int) (s0_1 : Int) (r1 : List (S125)) (r2 : Int) (w0 w : World) (hI : IsS148 w0 w g s0_0 s0_1) (hB : Below w0.heap.size w0 w) (h : spec_someTree.f k s0_0 s0_1 = some (r1,r2)) :
  Calls Try.prog 103 #[.pointer (some ⟨g,0,none⟩)] w fun e w'=>∃ v0_ : Value,e = .returned (.agg #[v0_]) ∧ Kd.R k125 125 w' w.heap.size (fun _=>True) v0_ r1 ∧ IsS148 w0 w' g s0_0 r2 ∧ Below w0.heap.size w0 w' ∧ KeepBut w w' g none:=by
 have hu25:=Try.underlying25
 have HI0:=a0_ hI
 have HK:=a0_ (KeepBut.refl w g none)
 have HL:=a0_ hB.size
 clear hI
 have HW0:=a0_ hB.size
 have HB:=a0_ hB
 clear hB
 have H : ((spec_goodTree.f k s0_0 s0_1).bind fun bt2=>((spec_reader_pick.f k s0_0 bt2.2 (bt2.1.length : Int)).bind fun bt7=>((spec_reader_pick.f k s0_0 bt7.2 24).bind fun bt9=>(if bt9.1 = 0 then ((spec_reader_of.f k s0_0 bt9.2 (([(⟨#[]⟩ : ByteArray),(⟨#[97,110,121]⟩ : ByteArray),(⟨#[65]⟩ : ByteArray),(⟨#[116,111,111,108,111,110,103]⟩ : ByteArray)] : List ByteArray))).bind fun bt14=>(if 0 ≤ bt7.1 then (if bt7.1 < (bt2.1.length : Int) then (some ((bt2.1.set (bt7.1 : Int).toNat (⟨bt14.1,(rd_T125 bt2.1 bt7.1).f1⟩ : S125)),bt14.2)) else (none)) else (none))) else (if bt9.1 = 1 then ((spec_reader_one.f k s0_0 bt9.2 (([bt7.1,(-1),8,(-2)] : List Int))).bind fun bt20=>(if 0 ≤ bt7.1 then (if bt7.1 < (bt2.1.length : Int) then (some ((bt2.1.set (bt7.1 : Int).toNat (⟨(rd_T125 bt2.1 bt7.1).f0,bt20.1⟩ : S125)),bt20.2)) else (none)) else (none))) else (if bt9.1 = 2 then (some (([] : List (S125)),bt9.2)) else (some (bt2.1,bt9.2)))))))) = some (r1,r2):=h
 clear h
 replace H:=Option.bind_eq_some_iff.mp H
 obtain ⟨⟨t2,t5⟩,A20,H⟩:=H
 try dsimp only at H
 have A2:=a0_ A20
 clear A20
 replace H:=Option.bind_eq_some_iff.mp H
 obtain ⟨⟨t7,t8⟩,A30,H⟩:=H
 try dsimp only at H
 have A3:=a0_ A30
 clear A30
 replace H:=Option.bind_eq_some_iff.mp H
 obtain ⟨⟨t9,t10⟩,A40,H⟩:=H
 try dsimp only at H
 have A4:=a0_ A40
 clear A40
 by_cases c5 : t9 = 0
 ·rw [if_pos c5] at H
  have c5b0 : (t9 == 0) = true:=beq_iff_eq.mpr c5
  have c5b1 : (t9 != 0) = false:=bne_eq_false_iff_eq.mpr c5
  clear c5
  obtain ⟨y11,hy11⟩ : ∃ y_ : List ByteArray,y_ = (([(⟨#[]⟩ : ByteArray),(⟨#[97,110,121]⟩ : ByteArray),(⟨#[65]⟩ : ByteArray),(⟨#[116,111,111,108,111,110,103]⟩ : ByteArray)] : List ByteArray)):=⟨_,rfl⟩
  replace H : ((spec_reader_of.f k s0_0 t10 y11).bind fun bt14=>(if 0 ≤ t7 then (if t7 < (t2.length : Int) then (some ((t2.set (t7 : Int).toNat (⟨bt14.1,(rd_T125 t2 t7).f1⟩ : S125)),bt14.2)) else (none)) else (none))) = some (r1,r2):=by first | (rw [hy11];with_reducible exact H) | (have H2_:=(Option.bind_some _ _).symm.trans H;rw [hy11];with_reducible exact H2_) | (have H2_:=(Option.bind_some _ _).symm.trans H;with_reducible exact H2_) | with_reducible exact H | (rw [hy11];exact H) | exact H
  have Ny11:=a0_ hy11
  clear hy11
  replace H:=Option.bind_eq_some_iff.mp H
  obtain ⟨⟨t14,t15⟩,A60,H⟩:=H
  try dsimp only at H
  have A6:=a0_ A60
  clear A60
  by_cases c7 : 0 ≤ t7
  ·rw [if_pos c7] at H
   have c7b0 : decide (0 ≤ t7) = true:=decide_eq_true c7
   clear c7
   by_cases c8 : t7 < (t2.length : Int)
   ·rw [if_pos c8] at H
    have c8b0 : decide (t7 < (t2.length : Int)) = true:=decide_eq_true c8
    clear c8
    obtain ⟨y16,hy16⟩ : ∃ y_ : List (S125),y_ = (t2.set (t7 : Int).toNat (⟨t14,(rd_T125 t2 t7).f1⟩ : S125)):=⟨_,rfl⟩
    replace H : (some (y16,t15)) = some (r1,r2):=by first | (rw [hy16];with_reducible exact H) | (have H2_:=(Option.bind_some _ _).symm.trans H;rw [hy16];with_reducible exact H2_) | (have H2_:=(Option.bind_some _ _).symm.trans H;with_reducible exact H2_) | with_reducible exact H | (rw [hy16];exact H) | exact H
    have Ny16:=a0_ hy16
    clear hy16
    simp only [Option.some.injEq,Prod.mk.injEq] at H
    obtain ⟨rfl,rfl⟩:=H
    go_enter Try.func103,Try.ntmps103
    try go_wp2_with (first | ((with_reducible refine gate_dst (N:=2) rfl ?_);refine box_event ?hg (N:=2) ?hd (cs:=#[.slice none 0 0]) (t:=25) ?hr ?_;(case hd=>rfl);(case hg=>rfl);(case hr=>first | (go_simp;done) | (go_simp;rfl));intro gb1 hg w10 hbox hb;have n0_:=a0_ (IsS148.below is0_ hb);have n1_:=a0_ (KeepBut.trans (w:=w) hk_ (KeepBut.of_below hb g none) (.inl rfl));have n2_:=a0_ (below_step hbi0_ hb);have n3_:=a0_ (hbox);have n4_:=a0_ ((by rw [hg];exact (keep_size (w:=w) (g:=g) (row:=none) hk_) : w.heap.size ≤ gb1));have n5_:=a0_ ((Nat.le_trans HW0.out (by rw [hg];exact (keep_size (w:=w) (g:=g) (row:=none) hk_) : w.heap.size ≤ gb1) : w0.heap.size ≤ gb1));have n6_:=a0_ ((by rw [hg];exact Nat.ne_of_lt (IsS148.lt (is0_ : IsS148 w0 _ g s0_0 s0_1)) : g ≠ gb1));have n7_:=a0_ ((by rw [hg];exact Nat.ne_of_gt (IsS148.lt (is0_ : IsS148 w0 _ g s0_0 s0_1)) : gb1 ≠ g));clear HI0 HK HB;have HI0:=n0_;have HK:=n1_;have HB:=n2_;have BK1:=n3_;have GW1:=n4_;have GE1:=n5_;have NB0_1:=n6_;have NB1_0:=n7_;clear n0_ n1_ n2_ n3_ n4_ n5_ n6_ n7_;clear hb hbox hg) | ((with_reducible refine gate_callee (f:=109) rfl ?_);refine goesL_ (some 6) rfl rfl Try.func109 (by kernel_rfl) rfl #[.pointer (some ⟨g,0,none⟩)] rfl lm_ ?_;(with_reducible refine (spec_goodTree.calls k g s0_0 s0_1 t2 t5 w0 _ ?side1 ?side2 A2.out).mono ?_);(case side1=>exact is0_);(case side2=>exact hbi0_);rintro e w11 ⟨v3,rfl,ho0,hi,hb,hk⟩;refine ⟨_,rfl,?_⟩;replace BK1:=kk_ hk BK1 NB1_0;have HO4:=a0_ (Kd.R_lower ho0 (keep_size (w:=w) (g:=g) (row:=none) hk_));replace HK:=a0_ (KeepBut.trans (w:=w) hk_ hk (.inl rfl));replace HI0:=a0_ (hi);replace HB:=a0_ (hb);(try clear hb);(try clear ho0)) | ((with_reducible refine gate_dst (N:=3) rfl ?_);refine box_event ?hg (N:=3) ?hd (cs:=#[.slice none 0 0]) (t:=25) ?hr ?_;(case hd=>rfl);(case hg=>rfl);(case hr=>first | (go_simp;done) | (go_simp;rfl));intro gb6 hg w12 hbox hb;have n0_:=rb_ HO4 hb;have n1_:=a0_ (IsS148.below is0_ hb);have n2_:=kb_ BK1 hb;have n3_:=a0_ (KeepBut.trans (w:=w) hk_ (KeepBut.of_below hb g none) (.inl rfl));have n4_:=a0_ (below_step hbi0_ hb);have n5_:=a0_ (hbox);have n6_:=a0_ ((by rw [hg];exact (keep_size (w:=w) (g:=g) (row:=none) hk_) : w.heap.size ≤ gb6));have n7_:=a0_ ((Nat.le_trans HW0.out (by rw [hg];exact (keep_size (w:=w) (g:=g) (row:=none) hk_) : w.heap.size ≤ gb6) : w0.heap.size ≤ gb6));have n8_:=a0_ ((by rw [hg];exact Nat.ne_of_lt (blk_lt (bb_ BK1.out)) : gb1 ≠ gb6));have n9_:=a0_ ((by rw [hg];exact Nat.ne_of_gt (blk_lt (bb_ BK1.out)) : gb6 ≠ gb1));have n10_:=a0_ ((by rw [hg];exact Nat.ne_of_lt (IsS148.lt (is0_ : IsS148 w0 _ g s0_0 t5)) : g ≠ gb6));have n11_:=a0_ ((by rw [hg];exact Nat.ne_of_gt (IsS148.lt (is0_ : IsS148 w0 _ g s0_0 t5)) : gb6 ≠ g));clear HO4 HI0;clear BK1 HK HB;have HO4:=n0_;have HI0:=n1_;have BK1:=n2_;have HK:=n3_;have HB:=n4_;have BK6:=n5_;have GW6:=n6_;have GE6:=n7_;have NB1_6:=n8_;have NB6_1:=n9_;have NB0_6:=n10_;have NB6_0:=n11_;clear n0_ n1_ n2_ n3_ n4_ n5_ n6_ n7_ n8_ n9_ n10_ n11_;clear hb hbox hg;obtain ⟨Ao13,co13,eo13⟩:=Kd.R_slice HO4.out;subst eo13;have hnb14:=NB6_1.out;have hnc14:=NB1_6.out;have hnb15:=NB6_0.out;have hnc15:=NB0_6.out;have hcz16_0 : w12.cell? ⟨gb6,0,none⟩ = some (.slice none 0 0):=(blk_cell BK6.out 0).trans rfl;have hfz16_0:=blk_frozen BK6.out 0) | ((with_reducible refine gate_callee (f:=110) rfl ?_);refine goesL_ (some 11) rfl rfl Try.func110 (by kernel_rfl) rfl #[.pointer (some ⟨g,0,none⟩),.int .i64 (t2.length : Int)] rfl lm_ ?_;(with_reducible refine (spec_reader_pick.calls k g s0_0 t5 (t2.length : Int) t7 t8 w0 _ ?side1 ?side2 A3.out).mono ?_);(case side1=>exact is0_);(case side2=>exact hbi0_);rintro e w17 ⟨rfl,hi,hb,hk⟩;refine ⟨_,rfl,?_⟩;replace BK1:=kk_ hk BK1 NB1_0;replace HO4:=a0_ (Kd.R_mono (Kd.R_keep (IsS148.apart (is0_ : IsS148 w0 _ g s0_0 t5) (by (with_reducible repeat (first | apply Kd.R_alloc | apply Kd.R_drewN | apply Kd.R_drew));exact (Kd.R_mono (Kd.R_far (p:=⟨gb6,0,none⟩) (Kd.R_types HO4.out BK6.out (by decide)) (fun _ hk=>hk.2) (.slice Ao13 t2.length co13)) (fun _ h_=>h_.1))) (by decide)) hk (fun _ h=>h.2)) (fun _ h=>h.1));replace BK6:=a0_ (KeepBut.blk hk (g':=gb6) (o:=.cells #[.slice Ao13 t2.length co13] 25 (0,0)) (by (with_reducible repeat (first | refine blk_drewN ?_ _ | refine blk_drew ?_ | refine blk_alloc ?_ _));refine blk_put (cs:=#[.slice none 0 0]) ?_ 0 _ rfl;(with_reducible repeat (first | refine blk_drewN ?_ _ | refine blk_drew ?_ | refine blk_alloc ?_ _));exact BK6.out) NB6_0.out (by simp));replace HK:=a0_ (KeepBut.trans (w:=w) hk_ hk (.inl rfl));replace HI0:=a0_ (hi);replace HB:=a0_ (hb);(try clear hb);(try clear hb2);(try clear hk);(try clear hi)) | ((with_reducible refine gate_callee (f:=110) rfl ?_);refine goesL_ (some 13) rfl rfl Try.func110 (by kernel_rfl) rfl #[.pointer (some ⟨g,0,none⟩),.int .i64 24] rfl lm_ ?_;(with_reducible refine (spec_reader_pick.calls k g s0_0 t8 24 t9 t10 w0 _ ?side1 ?side2 A4.out).mono ?_);(case side1=>exact is0_);(case side2=>exact hbi0_);rintro e w18 ⟨rfl,hi,hb,hk⟩;refine ⟨_,rfl,?_⟩;replace BK1:=kk_ hk BK1 NB1_0;replace HO4:=a0_ (Kd.R_mono (Kd.R_keep (IsS148.apart (is0_ : IsS148 w0 _ g s0_0 t8) (rr_ HO4.out) (by decide)) hk (fun _ h=>h.2)) (fun _ h=>h.1));replace BK6:=kk_ hk BK6 NB6_0;replace HK:=a0_ (KeepBut.trans (w:=w) hk_ hk (.inl rfl));replace HI0:=a0_ (hi);replace HB:=a0_ (hb);(try clear hb);(try clear hb2);(try clear hk);(try clear hi)))
    have n0_:=a0_ (Kd.R_drew HO4.out)
    have n1_:=a0_ (blk_drew BK1.out)
    have n2_:=a0_ (blk_drew BK6.out)
    have n3_:=a0_ (IsS148.drew HI0.out)
    have n4_:=a0_ (keep_drew HK.out)
    have n5_:=a0_ (below_drew1 HB.out)
    clear HO4
    clear BK1
    clear BK6
    clear HI0
    clear HK
    clear HB
    have HO4:=n0_
    have BK1:=n1_
    have BK6:=n2_
    have HI0:=n3_
    have HK:=n4_
    have HB:=n5_
    clear n0_ n1_ n2_ n3_ n4_ n5_
    refine start_ (n:=9) (S:=fun w'=>w'.cell? ⟨gb6,0,none⟩ = some (.slice Ao13 t2.length co13)) (ds:=[8]) #[false,false,false,false,false,false,false,false,false] (by kernel_rfl) rfl rfl ((blk_cell BK6.out 0).trans rfl) (fun hHeld=>?_);refine with_tabW spec_someTree.tab5 spec_someTree.bits5 (fun HT_ HW_=>?_)
    generalize w18.drew = w19 at HO4 BK1 BK6 HI0 HK HB hHeld ⊢
    refine pure_ (i:=0) (N:=some 16) (v:=?_) (a':=?_) #[true,false,false,false,false,false,false,false,false] rfl rfl (any_of HT_.out (by kernel_rfl)) (fun _ _ _ h=>h) (Or.inl ⟨by rfl,?_⟩) ?_ ?_
    rotate_left
    ·intro w'
     go_simp
     with_reducible rfl
    rotate_left
    ·simp only [Act.put,s1_,s2_,s3_,i64_w,i32_w]
     rfl
    refine pure_ (i:=2) (N:=some 18) (v:=?_) (a':=?_) #[true,false,true,false,false,false,false,false,false] rfl rfl (any_of HT_.out (by kernel_rfl)) (fun _ _ _ h=>h) (Or.inl ⟨by rfl,?_⟩) ?_ ?_
    rotate_left
    ·intro w'
     go_simp
     with_reducible rfl
    rotate_left
    ·simp only [Act.put,s1_,s2_,s3_,i64_w,i32_w]
     rfl
    refine pure_ (i:=3) (N:=some 19) (v:=?_) (a':=?_) #[true,false,true,true,false,false,false,false,false] rfl rfl (any_of HT_.out (by kernel_rfl)) (fun _ _ _ h=>h) (Or.inl ⟨by rfl,?_⟩) ?_ ?_
    rotate_left
    ·intro w'
     go_simp
     with_reducible rfl
    rotate_left
    ·simp only [Act.put,s1_,s2_,s3_,i64_w,i32_w]
     rfl
    refine take_ (i:=1) (N:=some 17) (v:=?_) (a':=?_) #[true,true,true,true,false,false,false,false,false] rfl rfl (take_ofW HT_.out HW_.out (by kernel_rfl)) (fun _ _ _ h=>h) (Or.inl ⟨by rfl,?_⟩) hHeld ?_ ?_
    rotate_left
    ·intro w' s0
     go_simp
     with_reducible rfl
    rotate_left
    ·simp only [Act.put,s1_,s2_,s3_,i64_w,i32_w]
     rfl
    refine one_ (i:=4) (N:=some 20) #[true,true,true,true,true,false,false,false,false] rfl rfl (one_of HT_.out (by kernel_rfl)) (by decide) (fun K hK=>?_)
    refine Kd.R_lit_step Kd.string _ 9 ?hg (N:=20) ?hd (xs:=([(⟨#[]⟩ : ByteArray),(⟨#[97,110,121]⟩ : ByteArray),(⟨#[65]⟩ : ByteArray),(⟨#[116,111,111,108,111,110,103]⟩ : ByteArray)] : List ByteArray)) (inner:=[.string (⟨#[]⟩ : ByteArray),.string (⟨#[97,110,121]⟩ : ByteArray),.string (⟨#[65]⟩ : ByteArray),.string (⟨#[116,111,111,108,111,110,103]⟩ : ByteArray)]) (ok:=fun _=>True) (okp:=fun _=>True) ?hr ?hp (fun _ hk=>hk) trivial (Below.refl _ _) (Nat.le_refl _) (by simp) ?_;(case hd=>rfl);(case hg=>rfl);(case hr=>first | (go_simp;done) | (go_simp;rfl));(case hp=>exact (Reps.one (show Kd.M Kd.string _ _ _ (⟨#[]⟩ : ByteArray) [.string (⟨#[]⟩ : ByteArray)] from rfl) (Reps.one (show Kd.M Kd.string _ _ _ (⟨#[97,110,121]⟩ : ByteArray) [.string (⟨#[97,110,121]⟩ : ByteArray)] from rfl) (Reps.one (show Kd.M Kd.string _ _ _ (⟨#[65]⟩ : ByteArray) [.string (⟨#[65]⟩ : ByteArray)] from rfl) (Reps.one (show Kd.M Kd.string _ _ _ (⟨#[116,111,111,108,111,110,103]⟩ : ByteArray) [.string (⟨#[116,111,111,108,111,110,103]⟩ : ByteArray)] from rfl) (Reps.none _ _))))))
    intro v12 w20 ho21 hb hg_ hnew_
    clear hg_ hnew_
    (first | rw [← Ny11.out] at ho21 | (simp only [Int.reduceToNat] at ho21;rw [← Ny11.out] at ho21))
    have n0_:=rb_ HO4 hb
    have n1_:=a0_ (Kd.R_lower ho21 (keep_size (w:=w) (g:=g) (row:=none) hk_))
    have n2_:=a0_ (IsS148.below is0_ hb)
    have n3_:=kb_ BK1 hb
    have n4_:=kb_ BK6 hb
    have n5_:=a0_ (KeepBut.trans (w:=w) hk_ (KeepBut.of_below hb g none) (.inl rfl))
    have n6_:=a0_ (below_step hbi0_ hb)
    clear HO4
    clear HI0
    clear BK1
    clear BK6
    clear HK
    clear HB
    have HO4:=n0_
    have HO13:=n1_
    have HI0:=n2_
    have BK1:=n3_
    have BK6:=n4_
    have HK:=n5_
    have HB:=n6_
    clear n0_ n1_ n2_ n3_ n4_ n5_ n6_
    clear hb ho21
    obtain ⟨Ao22,co22,eo22⟩:=Kd.R_slice HO13.out
    (first | subst eo22 | (injection eo22 with f1_ f2_ f3_;have f4_:=f1_.symm;have f5_:=f3_.symm;clear f1_ f2_ f3_;subst f4_;subst f5_))
    refine hK.out _ _ ((blk_cell BK6.out 0).trans rfl) (fun hHeld=>?_)
    clear hK K
    refine norm_ (a':=?_) ?_ ?_
    rotate_left
    ·show Act.put _ (some 20) _ = _
     simp only [Act.put,s1_,s2_,s3_,i64_w,i32_w]
     rfl
    refine one_ (i:=5) (N:=some 21) #[true,true,true,true,true,true,false,false,false] rfl rfl (one_of HT_.out (by kernel_rfl)) (by decide) (fun K hK=>?_)
    refine goes_ Try.func147 (by kernel_rfl) rfl #[.pointer (some ⟨g,0,none⟩),.slice Ao22 y11.length co22] (by rfl) rfl rfl lm_ ?_
    with_reducible refine (spec_reader_of.calls k g s0_0 t10 _ _ y11 t14 t15 w0 _ ?side1 ?side2 ?side3 ?side4 ?side5 A6.out).mono ?_
    (case side1=>exact is0_)
    (case side2=>exact hbi0_)
    (case side3=>exact cc_ (Kd.R_reads' HO13.out).2.2)
    (case side4=>exact (Kd.R_reads' HO13.out).2.1)
    (case side5=>exact far_slice (IsS148.own_ne HI0.out HO13.out (by decide)))
    rintro e w23 ⟨rfl,hi,hb,hk⟩
    refine ⟨_,rfl,?_⟩
    have n0_:=kk_ hk BK1 NB1_0
    have n1_:=a0_ (Kd.R_mono (Kd.R_keep (IsS148.apart (is0_ : IsS148 w0 _ g s0_0 t10) (rr_ HO4.out) (by decide)) hk (fun _ h=>h.2)) (fun _ h=>h.1))
    have n2_:=kk_ hk BK6 NB6_0
    have n3_:=a0_ (Kd.R_mono (Kd.R_keep (IsS148.apart (is0_ : IsS148 w0 _ g s0_0 t10) (rr_ HO13.out) (by decide)) hk (fun _ h=>h.2)) (fun _ h=>h.1))
    have n4_:=a0_ (KeepBut.trans (w:=w) hk_ hk (.inl rfl))
    have n5_:=a0_ (hb)
    have n6_:=a0_ (hi)
    clear BK1
    clear HO4
    clear BK6
    clear HO13
    clear HK
    clear HB
    clear HI0
    have BK1:=n0_
    have HO4:=n1_
    have BK6:=n2_
    have HO13:=n3_
    have HK:=n4_
    have HB:=n5_
    have HI0:=n6_
    clear n0_ n1_ n2_ n3_ n4_ n5_ n6_
    (try clear hb)
    (try clear hb2)
    (try clear hk)
    (try clear hi)
    have p9 : 0 ≤ (t7 : Int):=of_decide_eq_true (by first | (with_reducible assumption) | assumption)
    have q9 : (t7 : Int) < ((t2.length : Int) : Int):=of_decide_eq_true (by first | (with_reducible assumption) | assumption)
    obtain ⟨go9,co9,eo9,gb9,gl9,cl9,HG9⟩:=Kd.R_form HO4.out (by omega)
    (first | cases eo9 | (injection eo9 with ea_ en_ ec_;(first | subst ea_ | (injection ea_ with ea_;subst ea_));subst ec_;clear en_))
    have GB9:=a0_ gb9
    have GG9:=a0_ HG9
    clear gb9 gl9 HG9
    obtain ⟨ce9,hcl9,hM9,hcc9,hfr9⟩:=Kd.R_elem HO4.out z125 (t7 : Int) p9 q9
    obtain rfl:=k125_openM hM9
    have hx9_0 : World.cell? _ ⟨go9,(t7 : Int).toNat * 2,none⟩ = some (.string ((rd_T125 t2 t7).f0)):=hcc9 0 _ rfl
    have hx9_1 : World.cell? _ ⟨go9,(t7 : Int).toNat * 2 + 1,none⟩ = some (.int .i64 ((rd_T125 t2 t7).f1)):=hcc9 1 _ rfl
    have hf9_0 : World.frozen? _ ⟨go9,(t7 : Int).toNat * 2,none⟩ = false:=hfr9 0
    have hf9_1 : World.frozen? _ ⟨go9,(t7 : Int).toNat * 2 + 1,none⟩ = false:=hfr9 1
    clear hcl9 hcc9 hfr9 hM9
    replace p9:=eq_true p9
    replace q9:=eq_true q9
    have HN0_go9:=a0_ (show g ≠ go9 from by have h_:=IsS148.own_ne HI0.out HO4.out (by decide);intro e_;exact h_ (by rw [e_];rfl))
    obtain ⟨ce24,hcl24,hM24,hcc24,hfr24⟩:=Kd.R_elem HO4.out z125 (t7 : Int) (of_decide_eq_true (by first | (with_reducible assumption) | assumption)) (by have h_ : (t7 : Int) < ((t2.length : Int) : Int):=of_decide_eq_true (by first | (with_reducible assumption) | assumption);first | exact h_ | (have e_:=(Kd.R_reads' HO4.out).1;omega) | simpa using h_)
    obtain rfl:=k125_openM hM24
    have HP24:=(Kd.R_seg HO4.out (t7 : Int) (of_decide_eq_true (by first | (with_reducible assumption) | assumption)) (by have h_ : (t7 : Int) < ((t2.length : Int) : Int):=of_decide_eq_true (by first | (with_reducible assumption) | assumption);first | exact h_ | (have e_:=(Kd.R_reads' HO4.out).1;omega) | simpa using h_) (seg:=[.string t14]) (j:=0) hcl24 hcc24 (show 1 ≤ 2 from by decide) (x':=(⟨t14,(rd_T125 t2 t7).f1⟩ : S125)) (k125_mkM _ _ _ (⟨t14,(rd_T125 t2 t7).f1⟩ : S125) ) (fun _ hk=>hk)).1
    rw [← Ny16.out] at HP24
    have HQ24:=a0_ HP24
    clear hcl24 hcc24 hfr24 hM24 HP24
    refine hK.out _ _ ((blk_cell BK6.out 0).trans rfl) (fun hHeld=>?_)
    clear hK K
    refine norm_ (a':=?_) ?_ ?_
    rotate_left
    ·show Act.put _ (some 21) _ = _
     simp only [Act.put,s1_,s2_,s3_,i64_w,i32_w]
     rfl
    refine pure_ (i:=6) (N:=some 22) (v:=?_) (a':=?_) #[true,true,true,true,true,true,true,false,false] rfl rfl (any_of HT_.out (by kernel_rfl)) (fun _ _ _ h=>h) (Or.inl ⟨by rfl,?_⟩) ?_ ?_
    rotate_left
    ·intro w'
     go_simp
     with_reducible rfl
    rotate_left
    ·simp only [Act.put,s1_,s2_,s3_,i64_w,i32_w]
     rfl
    refine pure_ (i:=7) (N:=some 23) (v:=?_) (a':=?_) #[true,true,true,true,true,true,true,true,false] rfl rfl (any_of HT_.out (by kernel_rfl)) (fun _ _ _ h=>h) (Or.inl ⟨by rfl,?_⟩) ?_ ?_
    rotate_left
    ·intro w'
     go_simp
     with_reducible rfl
    rotate_left
    ·simp only [Act.put,s1_,s2_,s3_,i64_w,i32_w]
     rfl
    refine last_ (i:=8) (N:=none) #[true,true,true,true,true,true,true,true,true] rfl rfl (one_of HT_.out (by kernel_rfl)) (by decide) (fun K hK=>?_)
    refine skip_ (w1:=?_) (by rfl) rfl ?_ ?_
    rotate_left
    ·go_simp
     rfl
    refine hK.out _ _ ?_
    clear hK K
    refine done_ (done_of HT_.out (by kernel_rfl)) ?_
    have n0_ : Aside0 (Kd.R k125 125 (w23.setCell ⟨go9,(t7 : Int).toNat * 2,none⟩ (.string t14)) w.heap.size (fun _=>True) (.slice (some ⟨go9,0,none⟩) t2.length co13) y16):=⟨by (with_reducible repeat (first | apply Kd.R_alloc | apply Kd.R_drewN | apply Kd.R_drew));exact HQ24.out⟩
    have n1_ : Aside0 (Kd.R Kd.string 9 (w23.setCell ⟨go9,(t7 : Int).toNat * 2,none⟩ (.string t14)) w.heap.size (fun _=>True) (.slice Ao22 y11.length co22) y11):=⟨by (with_reducible repeat (first | apply Kd.R_alloc | apply Kd.R_drewN | apply Kd.R_drew));exact Kd.R_mono (Kd.R_far (p:=⟨go9,(t7 : Int).toNat * 2,none⟩) (Kd.R_types HO13.out GG9.out (by decide)) (fun _ hk=>hk.2) (.string t14)) (fun _ hk=>trivial)⟩
    have n2_ : Aside0 ((w23.setCell ⟨go9,(t7 : Int).toNat * 2,none⟩ (.string t14)).heap[gb1]? = some (.cells #[.slice none 0 0] 25 (0,0))):=⟨by (with_reducible repeat (first | refine blk_drewN ?_ _ | refine blk_drew ?_ | refine blk_alloc ?_ _));refine blk_far ?_ (by have h_:=Kd.R_ne HO4.out BK1.out (by decide);intro e_;exact h_ (by rw [e_];rfl)) _;(with_reducible repeat (first | refine blk_drewN ?_ _ | refine blk_drew ?_ | refine blk_alloc ?_ _));exact BK1.out⟩
    have n3_ : Aside0 ((w23.setCell ⟨go9,(t7 : Int).toNat * 2,none⟩ (.string t14)).heap[gb6]? = some (.cells #[.slice (some ⟨go9,0,none⟩) t2.length co13] 25 (0,0))):=⟨by (with_reducible repeat (first | refine blk_drewN ?_ _ | refine blk_drew ?_ | refine blk_alloc ?_ _));refine blk_far ?_ (by have h_:=Kd.R_ne HO4.out BK6.out (by decide);intro e_;exact h_ (by rw [e_];rfl)) _;(with_reducible repeat (first | refine blk_drewN ?_ _ | refine blk_drew ?_ | refine blk_alloc ?_ _));exact BK6.out⟩
    have n4_ : Aside0 (IsS148 w0 (w23.setCell ⟨go9,(t7 : Int).toNat * 2,none⟩ (.string t14)) g s0_0 t15):=⟨is0_⟩
    have n5_ : Aside0 (KeepBut w (w23.setCell ⟨go9,(t7 : Int).toNat * 2,none⟩ (.string t14)) g none):=⟨hk_⟩
    have n6_ : Aside0 (Below w0.heap.size w0 (w23.setCell ⟨go9,(t7 : Int).toNat * 2,none⟩ (.string t14))):=⟨by repeat (first | (with_reducible first | exact HB.out | apply below_alloc | apply pw_below_drewN | apply below_drew1 | refine below_set ?_ (Nat.le_trans HL.out GB9.out) | refine below_set ?_ (IsS148.ge HI0.out) | refine below_set ?_ GE1.out | refine below_set ?_ GE6.out) | exact HB.out)⟩
    (try clear HO4)
    (try clear HO13)
    (try clear BK1)
    (try clear BK6)
    (try clear HI0)
    (try clear HK)
    (try clear HB)
    generalize (w23.setCell ⟨go9,(t7 : Int).toNat * 2,none⟩ (.string t14)) = w25 at n0_ n1_ n2_ n3_ n4_ n5_ n6_ ⊢
    have HO4:=n0_
    have HO13:=n1_
    have BK1:=n2_
    have BK6:=n3_
    have HI0:=n4_
    have HK:=n5_
    have HB:=n6_
    clear n0_ n1_ n2_ n3_ n4_ n5_ n6_
    have hcz26_0 : w25.cell? ⟨gb6,0,none⟩ = some (.slice (some ⟨go9,0,none⟩) t2.length co13):=(blk_cell BK6.out 0).trans rfl
    have hfz26_0:=blk_frozen BK6.out 0
    have hnb27:=NB1_0.out
    have hnc27:=NB0_1.out
    have hcz28_0 : w25.cell? ⟨gb1,0,none⟩ = some (.slice none 0 0):=(blk_cell BK1.out 0).trans rfl
    have hfz28_0:=blk_frozen BK1.out 0
    try go_wp2
    refine bodyPost_ret (results_cell_row rfl _ _ gb1 25 #[.slice (some ⟨go9,0,none⟩) t2.length co13] (0,0) _ rfl (by (with_reducible repeat (first | refine blk_drewN ?_ _ | refine blk_drew ?_ | refine blk_alloc ?_ _));refine blk_put (cs:=#[.slice none 0 0]) ?_ 0 _ rfl;(with_reducible repeat (first | refine blk_drewN ?_ _ | refine blk_drew ?_ | refine blk_alloc ?_ _));exact BK1.out) Try.underlying25 rfl (by kernel_rfl)) rfl ?_
    exact ⟨_,by first | rfl | (simp [errW_none,errW_some] <;> rfl) | (simp [*,errW_none,errW_some] <;> rfl),by (with_reducible repeat (first | apply Kd.R_alloc | apply Kd.R_drewN | apply Kd.R_drew));exact Kd.R_mono (Kd.R_far (p:=⟨gb1,0,none⟩) (Kd.R_types HO4.out BK1.out (by decide)) (fun _ hk=>hk.2) (.slice (some ⟨go9,0,none⟩) t2.length co13)) (fun _ hk=>trivial),is0_,hbi0_,hk_⟩
   ·rw [if_neg c8] at H
    exact absurd H (by simp)
  ·rw [if_neg c7] at H
   exact absurd H (by simp)
 ·rw [if_neg c5] at H
  have c5b0 : (t9 == 0) = false:=beq_eq_false_iff_ne.mpr c5
  have c5b1 : (t9 != 0) = true:=bne_iff_ne.mpr c5
  by_cases c29 : t9 = 1
  ·rw [if_pos c29] at H
   have c29b0 : (t9 == 1) = true:=beq_iff_eq.mpr c29
   have c29b1 : (t9 != 1) = false:=bne_eq_false_iff_eq.mpr c29
   clear c29
   obtain ⟨y17,hy17⟩ : ∃ y_ : List Int,y_ = (([t7,(-1),8,(-2)] : List Int)):=⟨_,rfl⟩
   replace H : ((spec_reader_one.f k s0_0 t10 y17).bind fun bt20=>(if 0 ≤ t7 then (if t7 < (t2.length : Int) then (some ((t2.set (t7 : Int).toNat (⟨(rd_T125 t2 t7).f0,bt20.1⟩ : S125)),bt20.2)) else (none)) else (none))) = some (r1,r2):=by first | (rw [hy17];with_reducible exact H) | (have H2_:=(Option.bind_some _ _).symm.trans H;rw [hy17];with_reducible exact H2_) | (have H2_:=(Option.bind_some _ _).symm.trans H;with_reducible exact H2_) | with_reducible exact H | (rw [hy17];exact H) | exact H
   have Ny17:=a0_ hy17
   clear hy17
   replace H:=Option.bind_eq_some_iff.mp H
   obtain ⟨⟨t20,t21⟩,A300,H⟩:=H
   try dsimp only at H
   have A30:=a0_ A300
   clear A300
   by_cases c31 : 0 ≤ t7
   ·rw [if_pos c31] at H
    have c31b0 : decide (0 ≤ t7) = true:=decide_eq_true c31
    clear c31
    by_cases c32 : t7 < (t2.length : Int)
    ·rw [if_pos c32] at H
     have c32b0 : decide (t7 < (t2.length : Int)) = true:=decide_eq_true c32
     clear c32
     obtain ⟨y22,hy22⟩ : ∃ y_ : List (S125),y_ = (t2.set (t7 : Int).toNat (⟨(rd_T125 t2 t7).f0,t20⟩ : S125)):=⟨_,rfl⟩
     replace H : (some (y22,t21)) = some (r1,r2):=by first | (rw [hy22];with_reducible exact H) | (have H2_:=(Option.bind_some _ _).symm.trans H;rw [hy22];with_reducible exact H2_) | (have H2_:=(Option.bind_some _ _).symm.trans H;with_reducible exact H2_) | with_reducible exact H | (rw [hy22];exact H) | exact H
     have Ny22:=a0_ hy22
     clear hy22
     simp only [Option.some.injEq,Prod.mk.injEq] at H
     obtain ⟨rfl,rfl⟩:=H
     go_enter Try.func103,Try.ntmps103
     try go_wp2_with (first | ((with_reducible refine gate_dst (N:=2) rfl ?_);refine box_event ?hg (N:=2) ?hd (cs:=#[.slice none 0 0]) (t:=25) ?hr ?_;(case hd=>rfl);(case hg=>rfl);(case hr=>first | (go_simp;done) | (go_simp;rfl));intro gb1 hg w34 hbox hb;have n0_:=a0_ (IsS148.below is0_ hb);have n1_:=a0_ (KeepBut.trans (w:=w) hk_ (KeepBut.of_below hb g none) (.inl rfl));have n2_:=a0_ (below_step hbi0_ hb);have n3_:=a0_ (hbox);have n4_:=a0_ ((by rw [hg];exact (keep_size (w:=w) (g:=g) (row:=none) hk_) : w.heap.size ≤ gb1));have n5_:=a0_ ((Nat.le_trans HW0.out (by rw [hg];exact (keep_size (w:=w) (g:=g) (row:=none) hk_) : w.heap.size ≤ gb1) : w0.heap.size ≤ gb1));have n6_:=a0_ ((by rw [hg];exact Nat.ne_of_lt (IsS148.lt (is0_ : IsS148 w0 _ g s0_0 s0_1)) : g ≠ gb1));have n7_:=a0_ ((by rw [hg];exact Nat.ne_of_gt (IsS148.lt (is0_ : IsS148 w0 _ g s0_0 s0_1)) : gb1 ≠ g));clear HI0 HK HB;have HI0:=n0_;have HK:=n1_;have HB:=n2_;have BK1:=n3_;have GW1:=n4_;have GE1:=n5_;have NB0_1:=n6_;have NB1_0:=n7_;clear n0_ n1_ n2_ n3_ n4_ n5_ n6_ n7_;clear hb hbox hg) | ((with_reducible refine gate_callee (f:=109) rfl ?_);refine goesL_ (some 6) rfl rfl Try.func109 (by kernel_rfl) rfl #[.pointer (some ⟨g,0,none⟩)] rfl lm_ ?_;(with_reducible refine (spec_goodTree.calls k g s0_0 s0_1 t2 t5 w0 _ ?side1 ?side2 A2.out).mono ?_);(case side1=>exact is0_);(case side2=>exact hbi0_);rintro e w35 ⟨v3,rfl,ho0,hi,hb,hk⟩;refine ⟨_,rfl,?_⟩;replace BK1:=kk_ hk BK1 NB1_0;have HO4:=a0_ (Kd.R_lower ho0 (keep_size (w:=w) (g:=g) (row:=none) hk_));replace HK:=a0_ (KeepBut.trans (w:=w) hk_ hk (.inl rfl));replace HI0:=a0_ (hi);replace HB:=a0_ (hb);(try clear hb);(try clear ho0)) | ((with_reducible refine gate_dst (N:=3) rfl ?_);refine box_event ?hg (N:=3) ?hd (cs:=#[.slice none 0 0]) (t:=25) ?hr ?_;(case hd=>rfl);(case hg=>rfl);(case hr=>first | (go_simp;done) | (go_simp;rfl));intro gb6 hg w36 hbox hb;have n0_:=rb_ HO4 hb;have n1_:=a0_ (IsS148.below is0_ hb);have n2_:=kb_ BK1 hb;have n3_:=a0_ (KeepBut.trans (w:=w) hk_ (KeepBut.of_below hb g none) (.inl rfl));have n4_:=a0_ (below_step hbi0_ hb);have n5_:=a0_ (hbox);have n6_:=a0_ ((by rw [hg];exact (keep_size (w:=w) (g:=g) (row:=none) hk_) : w.heap.size ≤ gb6));have n7_:=a0_ ((Nat.le_trans HW0.out (by rw [hg];exact (keep_size (w:=w) (g:=g) (row:=none) hk_) : w.heap.size ≤ gb6) : w0.heap.size ≤ gb6));have n8_:=a0_ ((by rw [hg];exact Nat.ne_of_lt (blk_lt (bb_ BK1.out)) : gb1 ≠ gb6));have n9_:=a0_ ((by rw [hg];exact Nat.ne_of_gt (blk_lt (bb_ BK1.out)) : gb6 ≠ gb1));have n10_:=a0_ ((by rw [hg];exact Nat.ne_of_lt (IsS148.lt (is0_ : IsS148 w0 _ g s0_0 t5)) : g ≠ gb6));have n11_:=a0_ ((by rw [hg];exact Nat.ne_of_gt (IsS148.lt (is0_ : IsS148 w0 _ g s0_0 t5)) : gb6 ≠ g));clear HO4 HI0;clear BK1 HK HB;have HO4:=n0_;have HI0:=n1_;have BK1:=n2_;have HK:=n3_;have HB:=n4_;have BK6:=n5_;have GW6:=n6_;have GE6:=n7_;have NB1_6:=n8_;have NB6_1:=n9_;have NB0_6:=n10_;have NB6_0:=n11_;clear n0_ n1_ n2_ n3_ n4_ n5_ n6_ n7_ n8_ n9_ n10_ n11_;clear hb hbox hg;obtain ⟨Ao37,co37,eo37⟩:=Kd.R_slice HO4.out;subst eo37;have hnb38:=NB6_1.out;have hnc38:=NB1_6.out;have hnb39:=NB6_0.out;have hnc39:=NB0_6.out;have hcz40_0 : w36.cell? ⟨gb6,0,none⟩ = some (.slice none 0 0):=(blk_cell BK6.out 0).trans rfl;have hfz40_0:=blk_frozen BK6.out 0) | ((with_reducible refine gate_callee (f:=110) rfl ?_);refine goesL_ (some 11) rfl rfl Try.func110 (by kernel_rfl) rfl #[.pointer (some ⟨g,0,none⟩),.int .i64 (t2.length : Int)] rfl lm_ ?_;(with_reducible refine (spec_reader_pick.calls k g s0_0 t5 (t2.length : Int) t7 t8 w0 _ ?side1 ?side2 A3.out).mono ?_);(case side1=>exact is0_);(case side2=>exact hbi0_);rintro e w41 ⟨rfl,hi,hb,hk⟩;refine ⟨_,rfl,?_⟩;replace BK1:=kk_ hk BK1 NB1_0;replace HO4:=a0_ (Kd.R_mono (Kd.R_keep (IsS148.apart (is0_ : IsS148 w0 _ g s0_0 t5) (by (with_reducible repeat (first | apply Kd.R_alloc | apply Kd.R_drewN | apply Kd.R_drew));exact (Kd.R_mono (Kd.R_far (p:=⟨gb6,0,none⟩) (Kd.R_types HO4.out BK6.out (by decide)) (fun _ hk=>hk.2) (.slice Ao37 t2.length co37)) (fun _ h_=>h_.1))) (by decide)) hk (fun _ h=>h.2)) (fun _ h=>h.1));replace BK6:=a0_ (KeepBut.blk hk (g':=gb6) (o:=.cells #[.slice Ao37 t2.length co37] 25 (0,0)) (by (with_reducible repeat (first | refine blk_drewN ?_ _ | refine blk_drew ?_ | refine blk_alloc ?_ _));refine blk_put (cs:=#[.slice none 0 0]) ?_ 0 _ rfl;(with_reducible repeat (first | refine blk_drewN ?_ _ | refine blk_drew ?_ | refine blk_alloc ?_ _));exact BK6.out) NB6_0.out (by simp));replace HK:=a0_ (KeepBut.trans (w:=w) hk_ hk (.inl rfl));replace HI0:=a0_ (hi);replace HB:=a0_ (hb);(try clear hb);(try clear hb2);(try clear hk);(try clear hi)) | ((with_reducible refine gate_callee (f:=110) rfl ?_);refine goesL_ (some 13) rfl rfl Try.func110 (by kernel_rfl) rfl #[.pointer (some ⟨g,0,none⟩),.int .i64 24] rfl lm_ ?_;(with_reducible refine (spec_reader_pick.calls k g s0_0 t8 24 t9 t10 w0 _ ?side1 ?side2 A4.out).mono ?_);(case side1=>exact is0_);(case side2=>exact hbi0_);rintro e w42 ⟨rfl,hi,hb,hk⟩;refine ⟨_,rfl,?_⟩;replace BK1:=kk_ hk BK1 NB1_0;replace HO4:=a0_ (Kd.R_mono (Kd.R_keep (IsS148.apart (is0_ : IsS148 w0 _ g s0_0 t8) (rr_ HO4.out) (by decide)) hk (fun _ h=>h.2)) (fun _ h=>h.1));replace BK6:=kk_ hk BK6 NB6_0;replace HK:=a0_ (KeepBut.trans (w:=w) hk_ hk (.inl rfl));replace HI0:=a0_ (hi);replace HB:=a0_ (hb);(try clear hb);(try clear hb2);(try clear hk);(try clear hi)))
     have n0_:=a0_ (Kd.R_drew HO4.out)
     have n1_:=a0_ (blk_drew BK1.out)
     have n2_:=a0_ (blk_drew BK6.out)
     have n3_:=a0_ (IsS148.drew HI0.out)
     have n4_:=a0_ (keep_drew HK.out)
     have n5_:=a0_ (below_drew1 HB.out)
     clear HO4
     clear BK1
     clear BK6
     clear HI0
     clear HK
     clear HB
     have HO4:=n0_
     have BK1:=n1_
     have BK6:=n2_
     have HI0:=n3_
     have HK:=n4_
     have HB:=n5_
     clear n0_ n1_ n2_ n3_ n4_ n5_
     refine start_ (n:=10) (S:=fun w'=>w'.cell? ⟨gb6,0,none⟩ = some (.slice Ao37 t2.length co37)) (ds:=[9]) #[false,false,false,false,false,false,false,false,false,false] (by kernel_rfl) rfl rfl ((blk_cell BK6.out 0).trans rfl) (fun hHeld=>?_);refine with_tabW spec_someTree.tab7 spec_someTree.bits7 (fun HT_ HW_=>?_)
     generalize w42.drew = w43 at HO4 BK1 BK6 HI0 HK HB hHeld ⊢
     refine pure_ (i:=0) (N:=some 26) (v:=?_) (a':=?_) #[true,false,false,false,false,false,false,false,false,false] rfl rfl (any_of HT_.out (by kernel_rfl)) (fun _ _ _ h=>h) (Or.inl ⟨by rfl,?_⟩) ?_ ?_
     rotate_left
     ·intro w'
      go_simp
      with_reducible rfl
     rotate_left
     ·simp only [Act.put,s1_,s2_,s3_,i64_w,i32_w]
      rfl
     refine pure_ (i:=2) (N:=some 28) (v:=?_) (a':=?_) #[true,false,true,false,false,false,false,false,false,false] rfl rfl (any_of HT_.out (by kernel_rfl)) (fun _ _ _ h=>h) (Or.inl ⟨by rfl,?_⟩) ?_ ?_
     rotate_left
     ·intro w'
      go_simp
      with_reducible rfl
     rotate_left
     ·simp only [Act.put,s1_,s2_,s3_,i64_w,i32_w]
      rfl
     refine pure_ (i:=3) (N:=some 29) (v:=?_) (a':=?_) #[true,false,true,true,false,false,false,false,false,false] rfl rfl (any_of HT_.out (by kernel_rfl)) (fun _ _ _ h=>h) (Or.inl ⟨by rfl,?_⟩) ?_ ?_
     rotate_left
     ·intro w'
      go_simp
      with_reducible rfl
     rotate_left
     ·simp only [Act.put,s1_,s2_,s3_,i64_w,i32_w]
      rfl
     refine pure_ (i:=4) (N:=some 30) (v:=?_) (a':=?_) #[true,false,true,true,true,false,false,false,false,false] rfl rfl (any_of HT_.out (by kernel_rfl)) (fun _ _ _ h=>h) (Or.inl ⟨by rfl,?_⟩) ?_ ?_
     rotate_left
     ·intro w'
      go_simp
      with_reducible rfl
     rotate_left
     ·simp only [Act.put,s1_,s2_,s3_,i64_w,i32_w]
      rfl
     refine take_ (i:=1) (N:=some 27) (v:=?_) (a':=?_) #[true,true,true,true,true,false,false,false,false,false] rfl rfl (take_ofW HT_.out HW_.out (by kernel_rfl)) (fun _ _ _ h=>h) (Or.inl ⟨by rfl,?_⟩) hHeld ?_ ?_
     rotate_left
     ·intro w' s0
      go_simp
      with_reducible rfl
     rotate_left
     ·simp only [Act.put,s1_,s2_,s3_,i64_w,i32_w]
      rfl
     refine one_ (i:=5) (N:=some 31) #[true,true,true,true,true,true,false,false,false,false] rfl rfl (one_of HT_.out (by kernel_rfl)) (by decide) (fun K hK=>?_)
     refine Kd.R_lit_step (Kd.int .i64) _ 3 ?hg (N:=31) ?hd (xs:=([t7,(-1),8,(-2)] : List Int)) (inner:=[.int .i64 t7,.int .i64 (-1),.int .i64 8,.int .i64 (-2)]) (ok:=fun _=>True) (okp:=fun _=>True) ?hr ?hp (fun _ hk=>hk) trivial (Below.refl _ _) (Nat.le_refl _) (by simp) ?_;(case hd=>rfl);(case hg=>rfl);(case hr=>first | (go_simp;done) | (go_simp;rfl));(case hp=>exact (Reps.one (show Kd.M (Kd.int .i64) _ _ _ t7 [.int .i64 t7] from rfl) (Reps.one (show Kd.M (Kd.int .i64) _ _ _ (-1) [.int .i64 (-1)] from rfl) (Reps.one (show Kd.M (Kd.int .i64) _ _ _ 8 [.int .i64 8] from rfl) (Reps.one (show Kd.M (Kd.int .i64) _ _ _ (-2) [.int .i64 (-2)] from rfl) (Reps.none _ _))))))
     intro v18 w44 ho45 hb hg_ hnew_
     clear hg_ hnew_
     (first | rw [← Ny17.out] at ho45 | (simp only [Int.reduceToNat] at ho45;rw [← Ny17.out] at ho45))
     have n0_:=rb_ HO4 hb
     have n1_:=a0_ (Kd.R_lower ho45 (keep_size (w:=w) (g:=g) (row:=none) hk_))
     have n2_:=a0_ (IsS148.below is0_ hb)
     have n3_:=kb_ BK1 hb
     have n4_:=kb_ BK6 hb
     have n5_:=a0_ (KeepBut.trans (w:=w) hk_ (KeepBut.of_below hb g none) (.inl rfl))
     have n6_:=a0_ (below_step hbi0_ hb)
     clear HO4
     clear HI0
     clear BK1
     clear BK6
     clear HK
     clear HB
     have HO4:=n0_
     have HO19:=n1_
     have HI0:=n2_
     have BK1:=n3_
     have BK6:=n4_
     have HK:=n5_
     have HB:=n6_
     clear n0_ n1_ n2_ n3_ n4_ n5_ n6_
     clear hb ho45
     obtain ⟨Ao46,co46,eo46⟩:=Kd.R_slice HO19.out
     (first | subst eo46 | (injection eo46 with f1_ f2_ f3_;have f4_:=f1_.symm;have f5_:=f3_.symm;clear f1_ f2_ f3_;subst f4_;subst f5_))
     refine hK.out _ _ ((blk_cell BK6.out 0).trans rfl) (fun hHeld=>?_)
     clear hK K
     refine norm_ (a':=?_) ?_ ?_
     rotate_left
     ·show Act.put _ (some 31) _ = _
      simp only [Act.put,s1_,s2_,s3_,i64_w,i32_w]
      rfl
     refine one_ (i:=6) (N:=some 32) #[true,true,true,true,true,true,true,false,false,false] rfl rfl (one_of HT_.out (by kernel_rfl)) (by decide) (fun K hK=>?_)
     refine goes_ Try.func146 (by kernel_rfl) rfl #[.pointer (some ⟨g,0,none⟩),.slice Ao46 y17.length co46] (by rfl) rfl rfl lm_ ?_
     with_reducible refine (spec_reader_one.calls k g s0_0 t10 _ _ y17 t20 t21 w0 _ ?side1 ?side2 ?side3 ?side4 ?side5 A30.out).mono ?_
     (case side1=>exact is0_)
     (case side2=>exact hbi0_)
     (case side3=>exact cc_ (Kd.R_reads' HO19.out).2.2)
     (case side4=>exact (Kd.R_reads' HO19.out).2.1)
     (case side5=>exact far_slice (IsS148.own_ne HI0.out HO19.out (by decide)))
     rintro e w47 ⟨rfl,hi,hb,hk⟩
     refine ⟨_,rfl,?_⟩
     have n0_:=kk_ hk BK1 NB1_0
     have n1_:=a0_ (Kd.R_mono (Kd.R_keep (IsS148.apart (is0_ : IsS148 w0 _ g s0_0 t10) (rr_ HO4.out) (by decide)) hk (fun _ h=>h.2)) (fun _ h=>h.1))
     have n2_:=kk_ hk BK6 NB6_0
     have n3_:=a0_ (Kd.R_mono (Kd.R_keep (IsS148.apart (is0_ : IsS148 w0 _ g s0_0 t10) (rr_ HO19.out) (by decide)) hk (fun _ h=>h.2)) (fun _ h=>h.1))
     have n4_:=a0_ (KeepBut.trans (w:=w) hk_ hk (.inl rfl))
     have n5_:=a0_ (hb)
     have n6_:=a0_ (hi)
     clear BK1
     clear HO4
     clear BK6
     clear HO19
     clear HK
     clear HB
     clear HI0
     have BK1:=n0_
     have HO4:=n1_
     have BK6:=n2_
     have HO19:=n3_
     have HK:=n4_
     have HB:=n5_
     have HI0:=n6_
     clear n0_ n1_ n2_ n3_ n4_ n5_ n6_
     (try clear hb)
     (try clear hb2)
     (try clear hk)
     (try clear hi)
     have p33 : 0 ≤ (t7 : Int):=of_decide_eq_true (by first | (with_reducible assumption) | assumption)
     have q33 : (t7 : Int) < ((t2.length : Int) : Int):=of_decide_eq_true (by first | (with_reducible assumption) | assumption)
     obtain ⟨go33,co33,eo33,gb33,gl33,cl33,HG33⟩:=Kd.R_form HO4.out (by omega)
     (first | cases eo33 | (injection eo33 with ea_ en_ ec_;(first | subst ea_ | (injection ea_ with ea_;subst ea_));subst ec_;clear en_))
     have GB33:=a0_ gb33
     have GG33:=a0_ HG33
     clear gb33 gl33 HG33
     obtain ⟨ce33,hcl33,hM33,hcc33,hfr33⟩:=Kd.R_elem HO4.out z125 (t7 : Int) p33 q33
     obtain rfl:=k125_openM hM33
     have hx33_0 : World.cell? _ ⟨go33,(t7 : Int).toNat * 2,none⟩ = some (.string ((rd_T125 t2 t7).f0)):=hcc33 0 _ rfl
     have hx33_1 : World.cell? _ ⟨go33,(t7 : Int).toNat * 2 + 1,none⟩ = some (.int .i64 ((rd_T125 t2 t7).f1)):=hcc33 1 _ rfl
     have hf33_0 : World.frozen? _ ⟨go33,(t7 : Int).toNat * 2,none⟩ = false:=hfr33 0
     have hf33_1 : World.frozen? _ ⟨go33,(t7 : Int).toNat * 2 + 1,none⟩ = false:=hfr33 1
     clear hcl33 hcc33 hfr33 hM33
     replace p33:=eq_true p33
     replace q33:=eq_true q33
     have HN0_go33:=a0_ (show g ≠ go33 from by have h_:=IsS148.own_ne HI0.out HO4.out (by decide);intro e_;exact h_ (by rw [e_];rfl))
     obtain ⟨ce48,hcl48,hM48,hcc48,hfr48⟩:=Kd.R_elem HO4.out z125 (t7 : Int) (of_decide_eq_true (by first | (with_reducible assumption) | assumption)) (by have h_ : (t7 : Int) < ((t2.length : Int) : Int):=of_decide_eq_true (by first | (with_reducible assumption) | assumption);first | exact h_ | (have e_:=(Kd.R_reads' HO4.out).1;omega) | simpa using h_)
     obtain rfl:=k125_openM hM48
     have HP48:=(Kd.R_seg HO4.out (t7 : Int) (of_decide_eq_true (by first | (with_reducible assumption) | assumption)) (by have h_ : (t7 : Int) < ((t2.length : Int) : Int):=of_decide_eq_true (by first | (with_reducible assumption) | assumption);first | exact h_ | (have e_:=(Kd.R_reads' HO4.out).1;omega) | simpa using h_) (seg:=[.int .i64 t20]) (j:=1) hcl48 hcc48 (show 2 ≤ 2 from by decide) (x':=(⟨(rd_T125 t2 t7).f0,t20⟩ : S125)) (k125_mkM _ _ _ (⟨(rd_T125 t2 t7).f0,t20⟩ : S125) ) (fun _ hk=>hk)).1
     rw [← Ny22.out] at HP48
     have HQ48:=a0_ HP48
     clear hcl48 hcc48 hfr48 hM48 HP48
     refine hK.out _ _ ((blk_cell BK6.out 0).trans rfl) (fun hHeld=>?_)
     clear hK K
     refine norm_ (a':=?_) ?_ ?_
     rotate_left
     ·show Act.put _ (some 32) _ = _
      simp only [Act.put,s1_,s2_,s3_,i64_w,i32_w]
      rfl
     refine pure_ (i:=7) (N:=some 33) (v:=?_) (a':=?_) #[true,true,true,true,true,true,true,true,false,false] rfl rfl (any_of HT_.out (by kernel_rfl)) (fun _ _ _ h=>h) (Or.inl ⟨by rfl,?_⟩) ?_ ?_
     rotate_left
     ·intro w'
      go_simp
      with_reducible rfl
     rotate_left
     ·simp only [Act.put,s1_,s2_,s3_,i64_w,i32_w]
      rfl
     refine pure_ (i:=8) (N:=some 34) (v:=?_) (a':=?_) #[true,true,true,true,true,true,true,true,true,false] rfl rfl (any_of HT_.out (by kernel_rfl)) (fun _ _ _ h=>h) (Or.inl ⟨by rfl,?_⟩) ?_ ?_
     rotate_left
     ·intro w'
      go_simp
      with_reducible rfl
     rotate_left
     ·simp only [Act.put,s1_,s2_,s3_,i64_w,i32_w]
      rfl
     refine last_ (i:=9) (N:=none) #[true,true,true,true,true,true,true,true,true,true] rfl rfl (one_of HT_.out (by kernel_rfl)) (by decide) (fun K hK=>?_)
     refine skip_ (w1:=?_) (by rfl) rfl ?_ ?_
     rotate_left
     ·go_simp
      rfl
     refine hK.out _ _ ?_
     clear hK K
     refine done_ (done_of HT_.out (by kernel_rfl)) ?_
     have n0_ : Aside0 (Kd.R k125 125 (w47.setCell ⟨go33,(t7 : Int).toNat * 2 + 1,none⟩ (.int .i64 t20)) w.heap.size (fun _=>True) (.slice (some ⟨go33,0,none⟩) t2.length co37) y22):=⟨by (with_reducible repeat (first | apply Kd.R_alloc | apply Kd.R_drewN | apply Kd.R_drew));exact HQ48.out⟩
     have n1_ : Aside0 (Kd.R (Kd.int .i64) 3 (w47.setCell ⟨go33,(t7 : Int).toNat * 2 + 1,none⟩ (.int .i64 t20)) w.heap.size (fun _=>True) (.slice Ao46 y17.length co46) y17):=⟨by (with_reducible repeat (first | apply Kd.R_alloc | apply Kd.R_drewN | apply Kd.R_drew));exact Kd.R_mono (Kd.R_far (p:=⟨go33,(t7 : Int).toNat * 2 + 1,none⟩) (Kd.R_types HO19.out GG33.out (by decide)) (fun _ hk=>hk.2) (.int .i64 t20)) (fun _ hk=>trivial)⟩
     have n2_ : Aside0 ((w47.setCell ⟨go33,(t7 : Int).toNat * 2 + 1,none⟩ (.int .i64 t20)).heap[gb1]? = some (.cells #[.slice none 0 0] 25 (0,0))):=⟨by (with_reducible repeat (first | refine blk_drewN ?_ _ | refine blk_drew ?_ | refine blk_alloc ?_ _));refine blk_far ?_ (by have h_:=Kd.R_ne HO4.out BK1.out (by decide);intro e_;exact h_ (by rw [e_];rfl)) _;(with_reducible repeat (first | refine blk_drewN ?_ _ | refine blk_drew ?_ | refine blk_alloc ?_ _));exact BK1.out⟩
     have n3_ : Aside0 ((w47.setCell ⟨go33,(t7 : Int).toNat * 2 + 1,none⟩ (.int .i64 t20)).heap[gb6]? = some (.cells #[.slice (some ⟨go33,0,none⟩) t2.length co37] 25 (0,0))):=⟨by (with_reducible repeat (first | refine blk_drewN ?_ _ | refine blk_drew ?_ | refine blk_alloc ?_ _));refine blk_far ?_ (by have h_:=Kd.R_ne HO4.out BK6.out (by decide);intro e_;exact h_ (by rw [e_];rfl)) _;(with_reducible repeat (first | refine blk_drewN ?_ _ | refine blk_drew ?_ | refine blk_alloc ?_ _));exact BK6.out⟩
     have n4_ : Aside0 (IsS148 w0 (w47.setCell ⟨go33,(t7 : Int).toNat * 2 + 1,none⟩ (.int .i64 t20)) g s0_0 t21):=⟨is0_⟩
     have n5_ : Aside0 (KeepBut w (w47.setCell ⟨go33,(t7 : Int).toNat * 2 + 1,none⟩ (.int .i64 t20)) g none):=⟨hk_⟩
     have n6_ : Aside0 (Below w0.heap.size w0 (w47.setCell ⟨go33,(t7 : Int).toNat * 2 + 1,none⟩ (.int .i64 t20))):=⟨by repeat (first | (with_reducible first | exact HB.out | apply below_alloc | apply pw_below_drewN | apply below_drew1 | refine below_set ?_ (Nat.le_trans HL.out GB33.out) | refine below_set ?_ (IsS148.ge HI0.out) | refine below_set ?_ GE1.out | refine below_set ?_ GE6.out) | exact HB.out)⟩
     (try clear HO4)
     (try clear HO19)
     (try clear BK1)
     (try clear BK6)
     (try clear HI0)
     (try clear HK)
     (try clear HB)
     generalize (w47.setCell ⟨go33,(t7 : Int).toNat * 2 + 1,none⟩ (.int .i64 t20)) = w49 at n0_ n1_ n2_ n3_ n4_ n5_ n6_ ⊢
     have HO4:=n0_
     have HO19:=n1_
     have BK1:=n2_
     have BK6:=n3_
     have HI0:=n4_
     have HK:=n5_
     have HB:=n6_
     clear n0_ n1_ n2_ n3_ n4_ n5_ n6_
     have hcz50_0 : w49.cell? ⟨gb6,0,none⟩ = some (.slice (some ⟨go33,0,none⟩) t2.length co37):=(blk_cell BK6.out 0).trans rfl
     have hfz50_0:=blk_frozen BK6.out 0
     have hnb51:=NB1_0.out
     have hnc51:=NB0_1.out
     have hcz52_0 : w49.cell? ⟨gb1,0,none⟩ = some (.slice none 0 0):=(blk_cell BK1.out 0).trans rfl
     have hfz52_0:=blk_frozen BK1.out 0
     try go_wp2
     refine bodyPost_ret (results_cell_row rfl _ _ gb1 25 #[.slice (some ⟨go33,0,none⟩) t2.length co37] (0,0) _ rfl (by (with_reducible repeat (first | refine blk_drewN ?_ _ | refine blk_drew ?_ | refine blk_alloc ?_ _));refine blk_put (cs:=#[.slice none 0 0]) ?_ 0 _ rfl;(with_reducible repeat (first | refine blk_drewN ?_ _ | refine blk_drew ?_ | refine blk_alloc ?_ _));exact BK1.out) Try.underlying25 rfl (by kernel_rfl)) rfl ?_
     exact ⟨_,by first | rfl | (simp [errW_none,errW_some] <;> rfl) | (simp [*,errW_none,errW_some] <;> rfl),by (with_reducible repeat (first | apply Kd.R_alloc | apply Kd.R_drewN | apply Kd.R_drew));exact Kd.R_mono (Kd.R_far (p:=⟨gb1,0,none⟩) (Kd.R_types HO4.out BK1.out (by decide)) (fun _ hk=>hk.2) (.slice (some ⟨go33,0,none⟩) t2.length co37)) (fun _ hk=>trivial),is0_,hbi0_,hk_⟩
    ·rw [if_neg c32] at H
     exact absurd H (by simp)
   ·rw [if_neg c31] at H
    exact absurd H (by simp)
  ·rw [if_neg c29] at H
   have c29b0 : (t9 == 1) = false:=beq_eq_false_iff_ne.mpr c29
   have c29b1 : (t9 != 1) = true:=bne_iff_ne.mpr c29
   by_cases c53 : t9 = 2
   ·rw [if_pos c53] at H
    have c53b0 : (t9 == 2) = true:=beq_iff_eq.mpr c53
    have c53b1 : (t9 != 2) = false:=bne_eq_false_iff_eq.mpr c53
    clear c53
    simp only [Option.some.injEq,Prod.mk.injEq] at H
    obtain ⟨rfl,rfl⟩:=H
    go_enter Try.func103,Try.ntmps103
    go_wp2_with (first | ((with_reducible refine gate_dst (N:=2) rfl ?_);refine box_event ?hg (N:=2) ?hd (cs:=#[.slice none 0 0]) (t:=25) ?hr ?_;(case hd=>rfl);(case hg=>rfl);(case hr=>first | (go_simp;done) | (go_simp;rfl));intro gb1 hg w54 hbox hb;have n0_:=a0_ (IsS148.below is0_ hb);have n1_:=a0_ (KeepBut.trans (w:=w) hk_ (KeepBut.of_below hb g none) (.inl rfl));have n2_:=a0_ (below_step hbi0_ hb);have n3_:=a0_ (hbox);have n4_:=a0_ ((by rw [hg];exact (keep_size (w:=w) (g:=g) (row:=none) hk_) : w.heap.size ≤ gb1));have n5_:=a0_ ((Nat.le_trans HW0.out (by rw [hg];exact (keep_size (w:=w) (g:=g) (row:=none) hk_) : w.heap.size ≤ gb1) : w0.heap.size ≤ gb1));have n6_:=a0_ ((by rw [hg];exact Nat.ne_of_lt (IsS148.lt (is0_ : IsS148 w0 _ g s0_0 s0_1)) : g ≠ gb1));have n7_:=a0_ ((by rw [hg];exact Nat.ne_of_gt (IsS148.lt (is0_ : IsS148 w0 _ g s0_0 s0_1)) : gb1 ≠ g));clear HI0 HK HB;have HI0:=n0_;have HK:=n1_;have HB:=n2_;have BK1:=n3_;have GW1:=n4_;have GE1:=n5_;have NB0_1:=n6_;have NB1_0:=n7_;clear n0_ n1_ n2_ n3_ n4_ n5_ n6_ n7_;clear hb hbox hg) | ((with_reducible refine gate_callee (f:=109) rfl ?_);refine goesL_ (some 6) rfl rfl Try.func109 (by kernel_rfl) rfl #[.pointer (some ⟨g,0,none⟩)] rfl lm_ ?_;(with_reducible refine (spec_goodTree.calls k g s0_0 s0_1 t2 t5 w0 _ ?side1 ?side2 A2.out).mono ?_);(case side1=>exact is0_);(case side2=>exact hbi0_);rintro e w55 ⟨v3,rfl,ho0,hi,hb,hk⟩;refine ⟨_,rfl,?_⟩;replace BK1:=kk_ hk BK1 NB1_0;have HO4:=a0_ (Kd.R_lower ho0 (keep_size (w:=w) (g:=g) (row:=none) hk_));replace HK:=a0_ (KeepBut.trans (w:=w) hk_ hk (.inl rfl));replace HI0:=a0_ (hi);replace HB:=a0_ (hb);(try clear hb);(try clear ho0)) | ((with_reducible refine gate_dst (N:=3) rfl ?_);refine box_event ?hg (N:=3) ?hd (cs:=#[.slice none 0 0]) (t:=25) ?hr ?_;(case hd=>rfl);(case hg=>rfl);(case hr=>first | (go_simp;done) | (go_simp;rfl));intro gb6 hg w56 hbox hb;have n0_:=rb_ HO4 hb;have n1_:=a0_ (IsS148.below is0_ hb);have n2_:=kb_ BK1 hb;have n3_:=a0_ (KeepBut.trans (w:=w) hk_ (KeepBut.of_below hb g none) (.inl rfl));have n4_:=a0_ (below_step hbi0_ hb);have n5_:=a0_ (hbox);have n6_:=a0_ ((by rw [hg];exact (keep_size (w:=w) (g:=g) (row:=none) hk_) : w.heap.size ≤ gb6));have n7_:=a0_ ((Nat.le_trans HW0.out (by rw [hg];exact (keep_size (w:=w) (g:=g) (row:=none) hk_) : w.heap.size ≤ gb6) : w0.heap.size ≤ gb6));have n8_:=a0_ ((by rw [hg];exact Nat.ne_of_lt (blk_lt (bb_ BK1.out)) : gb1 ≠ gb6));have n9_:=a0_ ((by rw [hg];exact Nat.ne_of_gt (blk_lt (bb_ BK1.out)) : gb6 ≠ gb1));have n10_:=a0_ ((by rw [hg];exact Nat.ne_of_lt (IsS148.lt (is0_ : IsS148 w0 _ g s0_0 t5)) : g ≠ gb6));have n11_:=a0_ ((by rw [hg];exact Nat.ne_of_gt (IsS148.lt (is0_ : IsS148 w0 _ g s0_0 t5)) : gb6 ≠ g));clear HO4 HI0;clear BK1 HK HB;have HO4:=n0_;have HI0:=n1_;have BK1:=n2_;have HK:=n3_;have HB:=n4_;have BK6:=n5_;have GW6:=n6_;have GE6:=n7_;have NB1_6:=n8_;have NB6_1:=n9_;have NB0_6:=n10_;have NB6_0:=n11_;clear n0_ n1_ n2_ n3_ n4_ n5_ n6_ n7_ n8_ n9_ n10_ n11_;clear hb hbox hg;obtain ⟨Ao57,co57,eo57⟩:=Kd.R_slice HO4.out;subst eo57;have hnb58:=NB6_1.out;have hnc58:=NB1_6.out;have hnb59:=NB6_0.out;have hnc59:=NB0_6.out;have hcz60_0 : w56.cell? ⟨gb6,0,none⟩ = some (.slice none 0 0):=(blk_cell BK6.out 0).trans rfl;have hfz60_0:=blk_frozen BK6.out 0) | ((with_reducible refine gate_callee (f:=110) rfl ?_);refine goesL_ (some 11) rfl rfl Try.func110 (by kernel_rfl) rfl #[.pointer (some ⟨g,0,none⟩),.int .i64 (t2.length : Int)] rfl lm_ ?_;(with_reducible refine (spec_reader_pick.calls k g s0_0 t5 (t2.length : Int) t7 t8 w0 _ ?side1 ?side2 A3.out).mono ?_);(case side1=>exact is0_);(case side2=>exact hbi0_);rintro e w61 ⟨rfl,hi,hb,hk⟩;refine ⟨_,rfl,?_⟩;replace BK1:=kk_ hk BK1 NB1_0;replace HO4:=a0_ (Kd.R_mono (Kd.R_keep (IsS148.apart (is0_ : IsS148 w0 _ g s0_0 t5) (by (with_reducible repeat (first | apply Kd.R_alloc | apply Kd.R_drewN | apply Kd.R_drew));exact (Kd.R_mono (Kd.R_far (p:=⟨gb6,0,none⟩) (Kd.R_types HO4.out BK6.out (by decide)) (fun _ hk=>hk.2) (.slice Ao57 t2.length co57)) (fun _ h_=>h_.1))) (by decide)) hk (fun _ h=>h.2)) (fun _ h=>h.1));replace BK6:=a0_ (KeepBut.blk hk (g':=gb6) (o:=.cells #[.slice Ao57 t2.length co57] 25 (0,0)) (by (with_reducible repeat (first | refine blk_drewN ?_ _ | refine blk_drew ?_ | refine blk_alloc ?_ _));refine blk_put (cs:=#[.slice none 0 0]) ?_ 0 _ rfl;(with_reducible repeat (first | refine blk_drewN ?_ _ | refine blk_drew ?_ | refine blk_alloc ?_ _));exact BK6.out) NB6_0.out (by simp));replace HK:=a0_ (KeepBut.trans (w:=w) hk_ hk (.inl rfl));replace HI0:=a0_ (hi);replace HB:=a0_ (hb);(try clear hb);(try clear hb2);(try clear hk);(try clear hi)) | ((with_reducible refine gate_callee (f:=110) rfl ?_);refine goesL_ (some 13) rfl rfl Try.func110 (by kernel_rfl) rfl #[.pointer (some ⟨g,0,none⟩),.int .i64 24] rfl lm_ ?_;(with_reducible refine (spec_reader_pick.calls k g s0_0 t8 24 t9 t10 w0 _ ?side1 ?side2 A4.out).mono ?_);(case side1=>exact is0_);(case side2=>exact hbi0_);rintro e w62 ⟨rfl,hi,hb,hk⟩;refine ⟨_,rfl,?_⟩;replace BK1:=kk_ hk BK1 NB1_0;replace HO4:=a0_ (Kd.R_mono (Kd.R_keep (IsS148.apart (is0_ : IsS148 w0 _ g s0_0 t8) (rr_ HO4.out) (by decide)) hk (fun _ h=>h.2)) (fun _ h=>h.1));replace BK6:=kk_ hk BK6 NB6_0;replace HK:=a0_ (KeepBut.trans (w:=w) hk_ hk (.inl rfl));replace HI0:=a0_ (hi);replace HB:=a0_ (hb);(try clear hb);have hnb63:=NB1_0.out;have hnc63:=NB0_1.out;have hcz64_0 : w62.cell? ⟨gb1,0,none⟩ = some (.slice none 0 0):=(blk_cell BK1.out 0).trans rfl;have hfz64_0:=blk_frozen BK1.out 0))
    refine bodyPost_ret (results_cell_row rfl _ _ gb1 25 #[.slice none 0 0] (0,0) _ rfl (by (with_reducible repeat (first | refine blk_drewN ?_ _ | refine blk_drew ?_ | refine blk_alloc ?_ _));refine blk_put (cs:=#[.slice none 0 0]) ?_ 0 _ rfl;(with_reducible repeat (first | refine blk_drewN ?_ _ | refine blk_drew ?_ | refine blk_alloc ?_ _));exact BK1.out) Try.underlying25 rfl (by kernel_rfl)) rfl ?_
    exact ⟨_,by first | rfl | (simp [errW_none,errW_some] <;> rfl) | (simp [*,errW_none,errW_some] <;> rfl),by first | exact Kd.R_nil _ _ _ _ _ | exact Kd.N_nil _ _ _ _ _ | exact Kd.V_nil _ _ _ _ _ | exact Kd.Q_nil _ _ _ _ _ | exact Kd.S_nil _ _ _ _ _,is0_,hbi0_,hk_⟩
   ·rw [if_neg c53] at H
    have c53b0 : (t9 == 2) = false:=beq_eq_false_iff_ne.mpr c53
    have c53b1 : (t9 != 2) = true:=bne_iff_ne.mpr c53
    simp only [Option.some.injEq,Prod.mk.injEq] at H
    obtain ⟨rfl,rfl⟩:=H
    go_enter Try.func103,Try.ntmps103
    go_wp2_with (first | ((with_reducible refine gate_dst (N:=2) rfl ?_);refine box_event ?hg (N:=2) ?hd (cs:=#[.slice none 0 0]) (t:=25) ?hr ?_;(case hd=>rfl);(case hg=>rfl);(case hr=>first | (go_simp;done) | (go_simp;rfl));intro gb1 hg w65 hbox hb;have n0_:=a0_ (IsS148.below is0_ hb);have n1_:=a0_ (KeepBut.trans (w:=w) hk_ (KeepBut.of_below hb g none) (.inl rfl));have n2_:=a0_ (below_step hbi0_ hb);have n3_:=a0_ (hbox);have n4_:=a0_ ((by rw [hg];exact (keep_size (w:=w) (g:=g) (row:=none) hk_) : w.heap.size ≤ gb1));have n5_:=a0_ ((Nat.le_trans HW0.out (by rw [hg];exact (keep_size (w:=w) (g:=g) (row:=none) hk_) : w.heap.size ≤ gb1) : w0.heap.size ≤ gb1));have n6_:=a0_ ((by rw [hg];exact Nat.ne_of_lt (IsS148.lt (is0_ : IsS148 w0 _ g s0_0 s0_1)) : g ≠ gb1));have n7_:=a0_ ((by rw [hg];exact Nat.ne_of_gt (IsS148.lt (is0_ : IsS148 w0 _ g s0_0 s0_1)) : gb1 ≠ g));clear HI0 HK HB;have HI0:=n0_;have HK:=n1_;have HB:=n2_;have BK1:=n3_;have GW1:=n4_;have GE1:=n5_;have NB0_1:=n6_;have NB1_0:=n7_;clear n0_ n1_ n2_ n3_ n4_ n5_ n6_ n7_;clear hb hbox hg) | ((with_reducible refine gate_callee (f:=109) rfl ?_);refine goesL_ (some 6) rfl rfl Try.func109 (by kernel_rfl) rfl #[.pointer (some ⟨g,0,none⟩)] rfl lm_ ?_;(with_reducible refine (spec_goodTree.calls k g s0_0 s0_1 t2 t5 w0 _ ?side1 ?side2 A2.out).mono ?_);(case side1=>exact is0_);(case side2=>exact hbi0_);rintro e w66 ⟨v3,rfl,ho0,hi,hb,hk⟩;refine ⟨_,rfl,?_⟩;replace BK1:=kk_ hk BK1 NB1_0;have HO4:=a0_ (Kd.R_lower ho0 (keep_size (w:=w) (g:=g) (row:=none) hk_));replace HK:=a0_ (KeepBut.trans (w:=w) hk_ hk (.inl rfl));replace HI0:=a0_ (hi);replace HB:=a0_ (hb);(try clear hb);(try clear ho0)) | ((with_reducible refine gate_dst (N:=3) rfl ?_);refine box_event ?hg (N:=3) ?hd (cs:=#[.slice none 0 0]) (t:=25) ?hr ?_;(case hd=>rfl);(case hg=>rfl);(case hr=>first | (go_simp;done) | (go_simp;rfl));intro gb6 hg w67 hbox hb;have n0_:=rb_ HO4 hb;have n1_:=a0_ (IsS148.below is0_ hb);have n2_:=kb_ BK1 hb;have n3_:=a0_ (KeepBut.trans (w:=w) hk_ (KeepBut.of_below hb g none) (.inl rfl));have n4_:=a0_ (below_step hbi0_ hb);have n5_:=a0_ (hbox);have n6_:=a0_ ((by rw [hg];exact (keep_size (w:=w) (g:=g) (row:=none) hk_) : w.heap.size ≤ gb6));have n7_:=a0_ ((Nat.le_trans HW0.out (by rw [hg];exact (keep_size (w:=w) (g:=g) (row:=none) hk_) : w.heap.size ≤ gb6) : w0.heap.size ≤ gb6));have n8_:=a0_ ((by rw [hg];exact Nat.ne_of_lt (blk_lt (bb_ BK1.out)) : gb1 ≠ gb6));have n9_:=a0_ ((by rw [hg];exact Nat.ne_of_gt (blk_lt (bb_ BK1.out)) : gb6 ≠ gb1));have n10_:=a0_ ((by rw [hg];exact Nat.ne_of_lt (IsS148.lt (is0_ : IsS148 w0 _ g s0_0 t5)) : g ≠ gb6));have n11_:=a0_ ((by rw [hg];exact Nat.ne_of_gt (IsS148.lt (is0_ : IsS148 w0 _ g s0_0 t5)) : gb6 ≠ g));clear HO4 HI0;clear BK1 HK HB;have HO4:=n0_;have HI0:=n1_;have BK1:=n2_;have HK:=n3_;have HB:=n4_;have BK6:=n5_;have GW6:=n6_;have GE6:=n7_;have NB1_6:=n8_;have NB6_1:=n9_;have NB0_6:=n10_;have NB6_0:=n11_;clear n0_ n1_ n2_ n3_ n4_ n5_ n6_ n7_ n8_ n9_ n10_ n11_;clear hb hbox hg;obtain ⟨Ao68,co68,eo68⟩:=Kd.R_slice HO4.out;subst eo68;have hnb69:=NB6_1.out;have hnc69:=NB1_6.out;have hnb70:=NB6_0.out;have hnc70:=NB0_6.out;have hcz71_0 : w67.cell? ⟨gb6,0,none⟩ = some (.slice none 0 0):=(blk_cell BK6.out 0).trans rfl;have hfz71_0:=blk_frozen BK6.out 0) | ((with_reducible refine gate_callee (f:=110) rfl ?_);refine goesL_ (some 11) rfl rfl Try.func110 (by kernel_rfl) rfl #[.pointer (some ⟨g,0,none⟩),.int .i64 (t2.length : Int)] rfl lm_ ?_;(with_reducible refine (spec_reader_pick.calls k g s0_0 t5 (t2.length : Int) t7 t8 w0 _ ?side1 ?side2 A3.out).mono ?_);(case side1=>exact is0_);(case side2=>exact hbi0_);rintro e w72 ⟨rfl,hi,hb,hk⟩;refine ⟨_,rfl,?_⟩;replace BK1:=kk_ hk BK1 NB1_0;replace HO4:=a0_ (Kd.R_mono (Kd.R_keep (IsS148.apart (is0_ : IsS148 w0 _ g s0_0 t5) (by (with_reducible repeat (first | apply Kd.R_alloc | apply Kd.R_drewN | apply Kd.R_drew));exact (Kd.R_mono (Kd.R_far (p:=⟨gb6,0,none⟩) (Kd.R_types HO4.out BK6.out (by decide)) (fun _ hk=>hk.2) (.slice Ao68 t2.length co68)) (fun _ h_=>h_.1))) (by decide)) hk (fun _ h=>h.2)) (fun _ h=>h.1));replace BK6:=a0_ (KeepBut.blk hk (g':=gb6) (o:=.cells #[.slice Ao68 t2.length co68] 25 (0,0)) (by (with_reducible repeat (first | refine blk_drewN ?_ _ | refine blk_drew ?_ | refine blk_alloc ?_ _));refine blk_put (cs:=#[.slice none 0 0]) ?_ 0 _ rfl;(with_reducible repeat (first | refine blk_drewN ?_ _ | refine blk_drew ?_ | refine blk_alloc ?_ _));exact BK6.out) NB6_0.out (by simp));replace HK:=a0_ (KeepBut.trans (w:=w) hk_ hk (.inl rfl));replace HI0:=a0_ (hi);replace HB:=a0_ (hb);(try clear hb);(try clear hb2);(try clear hk);(try clear hi)) | ((with_reducible refine gate_callee (f:=110) rfl ?_);refine goesL_ (some 13) rfl rfl Try.func110 (by kernel_rfl) rfl #[.pointer (some ⟨g,0,none⟩),.int .i64 24] rfl lm_ ?_;(with_reducible refine (spec_reader_pick.calls k g s0_0 t8 24 t9 t10 w0 _ ?side1 ?side2 A4.out).mono ?_);(case side1=>exact is0_);(case side2=>exact hbi0_);rintro e w73 ⟨rfl,hi,hb,hk⟩;refine ⟨_,rfl,?_⟩;replace BK1:=kk_ hk BK1 NB1_0;replace HO4:=a0_ (Kd.R_mono (Kd.R_keep (IsS148.apart (is0_ : IsS148 w0 _ g s0_0 t8) (rr_ HO4.out) (by decide)) hk (fun _ h=>h.2)) (fun _ h=>h.1));replace BK6:=kk_ hk BK6 NB6_0;replace HK:=a0_ (KeepBut.trans (w:=w) hk_ hk (.inl rfl));replace HI0:=a0_ (hi);replace HB:=a0_ (hb);(try clear hb);have hcz74_0 : w73.cell? ⟨gb6,0,none⟩ = some (.slice Ao68 t2.length co68):=(blk_cell BK6.out 0).trans rfl;have hfz74_0:=blk_frozen BK6.out 0;have hnb75:=NB1_0.out;have hnc75:=NB0_1.out;have hcz76_0 : w73.cell? ⟨gb1,0,none⟩ = some (.slice none 0 0):=(blk_cell BK1.out 0).trans rfl;have hfz76_0:=blk_frozen BK1.out 0))
    refine bodyPost_ret (results_cell_row rfl _ _ gb1 25 #[.slice Ao68 t2.length co68] (0,0) _ rfl (by (with_reducible repeat (first | refine blk_drewN ?_ _ | refine blk_drew ?_ | refine blk_alloc ?_ _));refine blk_put (cs:=#[.slice none 0 0]) ?_ 0 _ rfl;(with_reducible repeat (first | refine blk_drewN ?_ _ | refine blk_drew ?_ | refine blk_alloc ?_ _));exact BK1.out) Try.underlying25 rfl (by kernel_rfl)) rfl ?_
    exact ⟨_,by first | rfl | (simp [errW_none,errW_some] <;> rfl) | (simp [*,errW_none,errW_some] <;> rfl),by (with_reducible repeat (first | apply Kd.R_alloc | apply Kd.R_drewN | apply Kd.R_drew));exact Kd.R_mono (Kd.R_far (p:=⟨gb1,0,none⟩) (Kd.R_types HO4.out BK1.out (by decide)) (fun _ hk=>hk.2) (.slice Ao68 t2.length co68)) (fun _ hk=>trivial),is0_,hbi0_,hk_⟩
theorem spec_someTree_ev (b : List Int) (p : Int) (hb : byL b) (h0 : 0 ≤ p) (hp : p ≤ 1099511626000) : ∃ t q,Ev (fun k=>spec_someTree.f k b p) (t,q) ∧ p ≤ q ∧ q ≤ p + 23 ∧ t.length ≤ 8 ∧ ∀ x ∈ t,x.f0.size ≤ 7:=by
 obtain ⟨t,q,ht,h1,h2,h3,h4,hg⟩:=spec_goodTree_ev b p hb h0 (by omega)
 obtain ⟨x,hx,x0,x1,_⟩:=spec_pick_ev b q (t.length : Int) hb (by omega) (by omega)
 have hxi:=x1 (by omega)
 obtain ⟨y,hy,y0,y1,_⟩:=spec_pick_ev b (q + 1) 24 hb (by omega) (by omega)
 by_cases c0 : y = 0
 ·obtain ⟨s,hs,hsm⟩:=spec_of_ev b (q + 1 + 1) [(⟨#[]⟩ : ByteArray),(⟨#[97,110,121]⟩ : ByteArray),(⟨#[65]⟩ : ByteArray),(⟨#[116,111,111,108,111,110,103]⟩ : ByteArray)] hb (by omega) (by omega) (by simp)
  have hsz : s.size ≤ 7:=by
   simp only [List.mem_cons,List.not_mem_nil,or_false] at hsm
   rcases hsm with rfl | rfl | rfl | rfl <;> decide
  refine ⟨_,_,Ev.bind ht (Ev.bind hx (Ev.bind hy (Ev.pos c0 (Ev.bind hs (Ev.pos x0 (Ev.pos hxi (Ev.const rfl))))))),by omega,by omega,by rw [List.length_set];exact h4,fun z hz=>?_⟩
  rcases set_mem hz with rfl | hz
  ·exact hsz
  ·exact hg.1 z hz
 by_cases c1 : y = 1
 ·obtain ⟨s,hs,hsm⟩:=spec_one_ev b (q + 1 + 1) [x,(-1),8,(-2)] hb (by omega) (by omega) (by simp)
  refine ⟨_,_,Ev.bind ht (Ev.bind hx (Ev.bind hy (Ev.neg c0 (Ev.pos c1 (Ev.bind hs (Ev.pos x0 (Ev.pos hxi (Ev.const rfl)))))))),by omega,by omega,by rw [List.length_set];exact h4,fun z hz=>?_⟩
  rcases set_mem hz with rfl | hz
  ·refine hg.1 (rd_T125 t x) ?_
   unfold rd_T125
   rw [List.getD_eq_getElem?_getD,List.getElem?_eq_getElem (show x.toNat < t.length by omega)]
   exact List.getElem_mem _
  ·exact hg.1 z hz
 by_cases c2 : y = 2
 ·exact ⟨_,_,Ev.bind ht (Ev.bind hx (Ev.bind hy (Ev.neg c0 (Ev.neg c1 (Ev.pos c2 (Ev.const rfl)))))),by omega,by omega,by simp,fun z hz=>absurd hz (by simp)⟩
 ·exact ⟨_,_,Ev.bind ht (Ev.bind hx (Ev.bind hy (Ev.neg c0 (Ev.neg c1 (Ev.neg c2 (Ev.const rfl)))))),by omega,by omega,h4,hg.1⟩
end Go.Proofs.Ytacgehaipacehaa.P
namespace Go.Proofs.Ytacgehaipacehaa.P
open Go.RowKit Go.Proofs.YtacgehaipacehaaW.PrintWords Go.Proofs.YtacgehaipacehaaW.PrintLast Go.Proofs.YtacgehaipacehaaW.PrintMore
attribute [local go_sem] max2_int min2_int max_two min_two max_three min_three max_four min_four
set_option linter.unusedVariables false
set_option linter.unusedSimpArgs false
def spec_newReader.f (l0 : List Int) : Option (List Int × Int):=if (l0.length : Int) > 2000 then (if 2000 ≤ (l0.length : Int) then (some (l0.take 2000,0)) else (none)) else (some (l0,0))
set_option maxHeartbeats 8000000 in
set_option maxRecDepth 100000 in
theorem spec_newReader.calls (A0 : Option Addr) (c0 : Nat) (l0 : List Int) (r1 : List Int) (r2 : Int) (w0 w : World) (hB : Below w0.heap.size w0 w) (hr0 : Kd.C (Kd.int .u8) w0 A0 l0.length l0) (hc0 : l0.length ≤ c0) (h : spec_newReader.f l0 = some (r1,r2)) :
  Calls Try.prog 56 #[.slice A0 l0.length c0] w fun e w'=>∃ g_ : Nat,e = .returned (.pointer (some ⟨g_,0,none⟩)) ∧ IsS148 w0 w' g_ r1 r2 ∧ Below w0.heap.size w0 w' ∧ Below w.heap.size w w':=by
 have hu148:=Try.underlying148
 have HR0:=a0_ hr0
 have HC0:=a0_ hc0
 clear hr0 hc0
 have HBW:=a0_ (Below.refl w.heap.size w)
 have HW0:=a0_ hB.size
 have HB:=a0_ hB
 clear hB
 have H : (if (l0.length : Int) > 2000 then (if 2000 ≤ (l0.length : Int) then (some (l0.take 2000,0)) else (none)) else (some (l0,0))) = some (r1,r2):=h
 clear h
 by_cases c2 : (l0.length : Int) > 2000
 ·rw [if_pos c2] at H
  have c2b0 : decide (2000 < (l0.length : Int)) = true:=decide_eq_true c2
  have c2b1 : decide (2000 < l0.length) = true:=decide_eq_true (by omega)
  clear c2
  by_cases c3 : 2000 ≤ (l0.length : Int)
  ·rw [if_pos c3] at H
   have c3b0:=eq_true c3
   have c3b1 : decide (2000 ≤ (l0.length : Int)) = true:=decide_eq_true c3
   clear c3
   simp only [Option.some.injEq,Prod.mk.injEq] at H
   obtain ⟨rfl,rfl⟩:=H
   obtain ⟨i04,hi04,_,hsz4,_⟩:=info_parts info5
   obtain ⟨hcut4,hA4,hC4⟩:=print_take_of (P:=Try.prog) (Value.int .u8) 0 22 5 .i64 Try.underlying22 hi04 hsz4 A0 c0 l0 2000 (by omega) (of_decide_eq_true (by first | (with_reducible assumption) | assumption)) HC0.out
   have HR1:=a0_ (Kd.C_of_reads (h1:=fun _=>rfl) (hA4 _ (Kd.reads_of_C HR0.out)))
   have HC1:=a0_ hC4
   clear hA4 hC4 hi04 hsz4
   go_enter Try.func56,Try.ntmps56
   go_wp2_with (first | ((with_reducible refine gate_dst (N:=10) rfl ?_);refine box_event ?hg (N:=10) ?hd (cs:=#[.slice A0 (l0.take 2000).length c0,.int .i64 0]) (t:=148) ?hr ?_;(case hd=>rfl);(case hg=>rfl);(case hr=>first | (go_simp;done) | (go_simp;rfl));intro gb2 hg w5 hbox hb;have n0_:=a0_ (below_step HBW.out hb);have n1_:=a0_ (below_step hbw_ hb);have n2_:=a0_ (hbox);have n3_:=a0_ ((by rw [hg];exact (below_size (by repeat (first | (with_reducible first | exact HBW.out | apply below_alloc | apply pw_below_drewN | apply below_drew1) | exact HBW.out))) : w.heap.size ≤ gb2));have n4_:=a0_ ((Nat.le_trans HW0.out (by rw [hg];exact (below_size (by repeat (first | (with_reducible first | exact HBW.out | apply below_alloc | apply pw_below_drewN | apply below_drew1) | exact HBW.out))) : w.heap.size ≤ gb2) : w0.heap.size ≤ gb2));clear HBW HB;have HBW:=n0_;have HB:=n1_;have BK2:=n2_;have GW2:=n3_;have GE2:=n4_;clear n0_ n1_ n2_ n3_ n4_;clear hb hbox hg))
   go_ret
   exact ⟨_,rfl,(show IsS148 w0 _ gb2 (l0.take 2000) 0 from ⟨_,_,by (with_reducible repeat (first | refine blk_drewN ?_ _ | refine blk_drew ?_ | refine blk_alloc ?_ _));exact BK2.out,GE2.out,HR1.out⟩),hbw_,by repeat (first | (with_reducible first | exact HBW.out | apply below_alloc | apply pw_below_drewN | apply below_drew1 | refine below_set ?_ GW2.out) | exact HBW.out)⟩
  ·rw [if_neg c3] at H
   exact absurd H (by simp)
 ·rw [if_neg c2] at H
  have c2b0 : decide (2000 < (l0.length : Int)) = false:=decide_eq_false c2
  have c2b1 : decide (2000 < l0.length) = false:=decide_eq_false (by omega)
  clear c2
  simp only [Option.some.injEq,Prod.mk.injEq] at H
  obtain ⟨rfl,rfl⟩:=H
  go_enter Try.func56,Try.ntmps56
  go_wp2_with (first | ((with_reducible refine gate_dst (N:=10) rfl ?_);refine box_event ?hg (N:=10) ?hd (cs:=#[.slice A0 l0.length c0,.int .i64 0]) (t:=148) ?hr ?_;(case hd=>rfl);(case hg=>rfl);(case hr=>first | (go_simp;done) | (go_simp;rfl));intro gb3 hg w6 hbox hb;have n0_:=a0_ (below_step HBW.out hb);have n1_:=a0_ (below_step hbw_ hb);have n2_:=a0_ (hbox);have n3_:=a0_ ((by rw [hg];exact (below_size (by repeat (first | (with_reducible first | exact HBW.out | apply below_alloc | apply pw_below_drewN | apply below_drew1) | exact HBW.out))) : w.heap.size ≤ gb3));have n4_:=a0_ ((Nat.le_trans HW0.out (by rw [hg];exact (below_size (by repeat (first | (with_reducible first | exact HBW.out | apply below_alloc | apply pw_below_drewN | apply below_drew1) | exact HBW.out))) : w.heap.size ≤ gb3) : w0.heap.size ≤ gb3));clear HBW HB;have HBW:=n0_;have HB:=n1_;have BK3:=n2_;have GW3:=n3_;have GE3:=n4_;clear n0_ n1_ n2_ n3_ n4_;clear hb hbox hg))
  go_ret
  exact ⟨_,rfl,(show IsS148 w0 _ gb3 l0 0 from ⟨_,_,by (with_reducible repeat (first | refine blk_drewN ?_ _ | refine blk_drew ?_ | refine blk_alloc ?_ _));exact BK3.out,GE3.out,HR0.out⟩),hbw_,by repeat (first | (with_reducible first | exact HBW.out | apply below_alloc | apply pw_below_drewN | apply below_drew1 | refine below_set ?_ GW3.out) | exact HBW.out)⟩
theorem spec_newReader_ev (l : List Int) (hl : ∀ x ∈ l,(Lit.int .u8 x).wf = true) : ∃ b,spec_newReader.f l = some (b,0) ∧ byL b:=by
 have h8 : ∀ x ∈ l,0 ≤ x ∧ x ≤ 255:=by
  intro x hx
  have:=hl x hx
  simp [Lit.wf,IntKind.min,IntKind.max,IntKind.bits,IntKind.signed] at this
  omega
 unfold spec_newReader.f
 by_cases h : (l.length : Int) > 2000
 ·refine ⟨l.take 2000,by rw [if_pos h,if_pos (by omega)],?_,fun x hx=>h8 x (List.mem_of_mem_take hx)⟩
  rw [List.length_take]
  omega
 ·exact ⟨l,by rw [if_neg h],by omega,h8⟩
end Go.Proofs.Ytacgehaipacehaa.P
namespace Go.Proofs.Ytacgehaipacehaa.P
open Go.RowKit Go.Proofs.YtacgehaipacehaaW.PrintWords Go.Proofs.YtacgehaipacehaaW.PrintLast Go.Proofs.YtacgehaipacehaaW.PrintMore
attribute [local go_sem] max2_int min2_int max_two min_two max_three min_three max_four min_four
set_option linter.unusedVariables false
set_option linter.unusedSimpArgs false
def spec_DrawTreeText.f (k : Nat) (l0 : List Int) : Option ((List (S125))):=(spec_newReader.f l0).bind fun bt2=>((spec_someTree.f k bt2.1 bt2.2).bind fun bt5=>(some bt5.1))
theorem spec_DrawTreeText.mono : ∀ a0 k,LeO (spec_DrawTreeText.f k a0) (spec_DrawTreeText.f (k + 1) a0):=by
 intro a0 k
 unfold spec_DrawTreeText.f
 repeat' first
   | (with_reducible exact spec_someTree.mono _ _ _)
   | (with_reducible exact LeO.refl _)
   | (with_reducible exact LeO.none _)
   | (with_reducible refine LeO.ite ?_ ?_)
   | (with_reducible refine LeO.bind ?_ (fun _=>?_))
   | exact spec_someTree.mono _ _ _
   | exact LeO.none _
   | refine LeO.ite ?_ ?_
   | refine LeO.bind ?_ (fun _=>?_)
set_option maxHeartbeats 8000000 in
set_option maxRecDepth 100000 in
theorem spec_DrawTreeText.calls (k : Nat) (A0 : Option Addr) (c0 : Nat) (l0 : List Int) (r : List (S125)) (w : World) (hr0 : Kd.C (Kd.int .u8) w A0 l0.length l0) (hc0 : l0.length ≤ c0) (h : spec_DrawTreeText.f k l0 = some r) :
  Calls Try.prog 48 #[.slice A0 l0.length c0] w fun e w'=>∃ v0_ : Value,e = .returned (.agg #[v0_]) ∧ Kd.R k125 125 w' w.heap.size (fun _=>True) v0_ r ∧ Below w.heap.size w w':=by
 have hu25:=Try.underlying25
 have HR0:=a0_ hr0
 have HC0:=a0_ hc0
 clear hr0 hc0
 have HB:=a0_ (Below.refl w.heap.size w)
 have H : ((spec_newReader.f l0).bind fun bt2=>((spec_someTree.f k bt2.1 bt2.2).bind fun bt5=>(some bt5.1))) = some r:=h
 clear h
 replace H:=Option.bind_eq_some_iff.mp H
 obtain ⟨⟨t2,t3⟩,A20,H⟩:=H
 try dsimp only at H
 have A2:=a0_ A20
 clear A20
 replace H:=Option.bind_eq_some_iff.mp H
 obtain ⟨⟨t5,t8⟩,A30,H⟩:=H
 replace H : (some t5) = some r:=H
 have A3:=a0_ A30
 clear A30
 obtain rfl:=Option.some.inj H
 go_enter Try.func48,Try.ntmps48
 go_wp2_with (first | ((with_reducible refine gate_dst (N:=2) rfl ?_);refine box_event ?hg (N:=2) ?hd (cs:=#[.slice none 0 0]) (t:=25) ?hr ?_;(case hd=>rfl);(case hg=>rfl);(case hr=>first | (go_simp;done) | (go_simp;rfl));intro gb1 hg w4 hbox hb;have BK1:=a0_ (hbox);have GW1:=a0_ ((by rw [hg];exact (below_size hbw_) : w.heap.size ≤ gb1));have GE1:=a0_ ((by rw [hg];exact (below_size hbw_) : w.heap.size ≤ gb1));replace HB:=a0_ (below_step hbw_ hb);clear hb hbox hg) | ((with_reducible refine gate_callee (f:=56) rfl ?_);refine goesL_ (some 4) rfl rfl Try.func56 (by kernel_rfl) rfl #[.slice A0 l0.length c0] rfl lm_ ?_;(with_reducible refine (spec_newReader.calls _ _ l0 t2 t3 w _ ?side1 ?side2 ?side3 A2.out).mono ?_);(case side1=>exact hbw_);(case side2=>exact HR0.out);(case side3=>exact HC0.out);rintro e w5 ⟨g4,rfl,hi,hb,hb2⟩;refine ⟨_,rfl,?_⟩;have n0_:=a0_ (blk_below (bb_ BK1.out) hb2);have n1_:=a0_ (hb);have n2_:=a0_ (hi);have n3_:=a0_ (IsS148.ne_blk hi (blk_below (bb_ BK1.out) hb2) (by decide));have n4_:=a0_ (Ne.symm (IsS148.ne_blk hi (blk_below (bb_ BK1.out) hb2) (by decide)));clear BK1 HB;have BK1:=n0_;have HB:=n1_;have HI4:=n2_;have NB4_1:=n3_;have NB1_4:=n4_;clear n0_ n1_ n2_ n3_ n4_;(try clear hb);(try clear hb2);(try clear hk);(try clear hi)) | ((with_reducible refine gate_callee (f:=103) rfl ?_);refine goesL_ (some 5) rfl rfl Try.func103 (by kernel_rfl) rfl #[.pointer (some ⟨g4,0,none⟩)] rfl lm_ ?_;(with_reducible refine (spec_someTree.calls k g4 t2 t3 t5 t8 w _ ?side1 ?side2 A3.out).mono ?_);(case side1=>repeat (first | (with_reducible first | exact HI4.out | apply IsS148.alloc | apply IsS148.drewN | apply IsS148.drew | apply IsS148.set_1 | refine IsS148.far ?_ NB4_1.out _) | exact HI4.out));(case side2=>repeat (first | (with_reducible first | exact HB.out | apply below_alloc | apply pw_below_drewN | apply below_drew1 | refine below_set ?_ (IsS148.ge HI4.out) | refine below_set ?_ GE1.out) | exact HB.out));rintro e w6 ⟨v6,rfl,ho0,hi,hb,hk⟩;refine ⟨_,rfl,?_⟩;replace BK1:=kk_ hk BK1 NB1_4;have HO7:=a0_ (Kd.R_lower ho0 (below_size (by repeat (first | (with_reducible first | exact HB.out | apply below_alloc | apply pw_below_drewN | apply below_drew1 | refine below_set ?_ (IsS148.ge HI4.out) | refine below_set ?_ GE1.out) | exact HB.out))));replace HI4:=a0_ (hi);replace HB:=a0_ (hb);(try clear hb);(try clear ho0);obtain ⟨Ao7,co7,eo7⟩:=Kd.R_slice HO7.out;subst eo7;have hnb8:=NB1_4.out;have hnc8:=NB4_1.out;have hcz9_0 : w6.cell? ⟨gb1,0,none⟩ = some (.slice none 0 0):=(blk_cell BK1.out 0).trans rfl;have hfz9_0:=blk_frozen BK1.out 0))
 refine bodyPost_ret (results_cell_row rfl _ _ gb1 25 #[.slice Ao7 t5.length co7] (0,0) _ rfl (by (with_reducible repeat (first | refine blk_drewN ?_ _ | refine blk_drew ?_ | refine blk_alloc ?_ _));refine blk_put (cs:=#[.slice none 0 0]) ?_ 0 _ rfl;(with_reducible repeat (first | refine blk_drewN ?_ _ | refine blk_drew ?_ | refine blk_alloc ?_ _));exact BK1.out) Try.underlying25 rfl (by kernel_rfl)) rfl ?_
 exact ⟨_,by first | rfl | (simp [errW_none,errW_some] <;> rfl) | (simp [*,errW_none,errW_some] <;> rfl),by (with_reducible repeat (first | apply Kd.R_alloc | apply Kd.R_drewN | apply Kd.R_drew));exact Kd.R_mono (Kd.R_far (p:=⟨gb1,0,none⟩) (Kd.R_types HO7.out BK1.out (by decide)) (fun _ hk=>hk.2) (.slice Ao7 t5.length co7)) (fun _ hk=>trivial),by repeat (first | (with_reducible first | exact HB.out | apply below_alloc | apply pw_below_drewN | apply below_drew1 | refine below_set ?_ (IsS148.ge HI4.out) | refine below_set ?_ GE1.out) | exact HB.out)⟩
theorem spec_DrawTreeText_ev (l : List Int) (hl : ∀ x ∈ l,(Lit.int .u8 x).wf = true) : ∃ t,Ev (fun k=>spec_DrawTreeText.f k l) t ∧ t.length ≤ 8 ∧ ∀ x ∈ t,x.f0.size ≤ 7:=by
 obtain ⟨b,hb,hy⟩:=spec_newReader_ev l hl
 obtain ⟨t,q,ht,_,_,h3,h4⟩:=spec_someTree_ev b 0 hy (by omega) (by omega)
 exact ⟨t,Ev.bind (Ev.const hb) (Ev.bind ht (Ev.const rfl)),h3,h4⟩
end Go.Proofs.Ytacgehaipacehaa.P
namespace Go.Proofs.Ytacgehaipacehaa.P
open Go.RowKit Go.Proofs.YtacgehaipacehaaW.PrintWords Go.Proofs.YtacgehaipacehaaW.PrintLast Go.Proofs.YtacgehaipacehaaW.PrintMore
attribute [local go_sem] max2_int min2_int max_two min_two max_three min_three max_four min_four
set_option linter.unusedVariables false
set_option linter.unusedSimpArgs false
def spec_inRange.f (a0 : Int) (a1 : Int) (a2 : Int) : Option (Bool):=if a1 ≤ a0 then (some (decide (a0 ≤ a2))) else (some false)
set_option maxHeartbeats 8000000 in
set_option maxRecDepth 100000 in
theorem spec_inRange.calls (a0 : Int) (a1 : Int) (a2 : Int) (r : Bool) (w : World) (h : spec_inRange.f a0 a1 a2 = some r) :
  Calls Try.prog 70 #[.int .i64 a0,.int .i64 a1,.int .i64 a2] w fun e w'=>e = .returned (.bool r) ∧ Drawn0 w w':=by
 have H : (if a1 ≤ a0 then (some (decide (a0 ≤ a2))) else (some false)) = some r:=h
 clear h
 by_cases c4 : a1 ≤ a0
 ·rw [if_pos c4] at H
  have c4b0 : decide (a1 ≤ a0) = true:=decide_eq_true c4
  clear c4
  obtain rfl:=Option.some.inj H
  go_enter Try.func70,Try.ntmps70
  go_wp2
  go_ret
  exact ⟨by first | rfl | (simp;done) | (simp [*];done),by repeat (first | exact Drawn0.refl _ | apply Drawn0.step)⟩
 ·rw [if_neg c4] at H
  have c4b0 : decide (a1 ≤ a0) = false:=decide_eq_false c4
  clear c4
  obtain rfl:=Option.some.inj H
  go_enter Try.func70,Try.ntmps70
  go_wp2
  go_ret
  exact ⟨by first | rfl | (simp;done) | (simp [*];done),by repeat (first | exact Drawn0.refl _ | apply Drawn0.step)⟩
theorem spec_inRange_ev (a b c : Int) : spec_inRange.f a b c = some (decide (b ≤ a) && decide (a ≤ c)):=by
 unfold spec_inRange.f
 by_cases h : b ≤ a
 ·rw [if_pos h];simp [h]
 ·rw [if_neg h];simp [h]
end Go.Proofs.Ytacgehaipacehaa.P
namespace Go.Proofs.Ytacgehaipacehaa.P
open Go.RowKit Go.Proofs.YtacgehaipacehaaW.PrintWords Go.Proofs.YtacgehaipacehaaW.PrintLast Go.Proofs.YtacgehaipacehaaW.PrintMore
attribute [local go_sem] max2_int min2_int max_two min_two max_three min_three max_four min_four
set_option linter.unusedVariables false
set_option linter.unusedSimpArgs false
def spec_classNamed.l0 : Nat → List (S125) → ByteArray → Int → Option (Int)
 | 0,_,_,_=>none
 | k + 1,x0,x1,x5=>if x5 < (x0.length : Int) then (if 0 ≤ x5 then (if ((rd_T125 x0 x5).f0).toList = x1.toList then (some x5) else (spec_classNamed.l0 k x0 x1 (wrap64 (x5 + 1)))) else (none)) else (some (-1))
def spec_classNamed.f (k : Nat) (l0 : List (S125)) (a1 : ByteArray) : Option (Int):=spec_classNamed.l0 k l0 a1 0
theorem spec_classNamed.mono_l : ∀ k,(∀ y0 y1 y2,LeO (spec_classNamed.l0 k y0 y1 y2) (spec_classNamed.l0 (k + 1) y0 y1 y2))
 | 0=>fun _ _ _ r h=>by simp [spec_classNamed.l0] at h
 | k + 1=>by
  have ih0:=spec_classNamed.mono_l k
  ·intro y0 y1 y2
   unfold spec_classNamed.l0
   repeat' first
   | (with_reducible exact ih0 _ _ _)
   | (with_reducible exact LeO.refl _)
   | (with_reducible exact LeO.none _)
   | (with_reducible refine LeO.ite ?_ ?_)
   | (with_reducible refine LeO.bind ?_ (fun _=>?_))
   | exact ih0 _ _ _
   | exact LeO.none _
   | refine LeO.ite ?_ ?_
   | refine LeO.bind ?_ (fun _=>?_)
theorem spec_classNamed.mono : ∀ a0 a1 k,LeO (spec_classNamed.f k a0 a1) (spec_classNamed.f (k + 1) a0 a1):=by
 intro a0 a1 k
 have ih0:=spec_classNamed.mono_l k
 unfold spec_classNamed.f
 repeat' first
   | (with_reducible exact ih0 _ _ _)
   | (with_reducible exact LeO.refl _)
   | (with_reducible exact LeO.none _)
   | (with_reducible refine LeO.ite ?_ ?_)
   | (with_reducible refine LeO.bind ?_ (fun _=>?_))
   | exact ih0 _ _ _
   | exact LeO.none _
   | refine LeO.ite ?_ ?_
   | refine LeO.bind ?_ (fun _=>?_)
set_option maxHeartbeats 8000000 in
set_option maxRecDepth 100000 in
theorem spec_classNamed.calls (k : Nat) (A0 : Option Addr) (c0 : Nat) (l0 : List (S125)) (a1 : ByteArray) (r : Int) (w : World) (hr0 : Kd.C k125 w A0 l0.length l0) (hc0 : l0.length ≤ c0) (h : spec_classNamed.f k l0 a1 = some r) :
  Calls Try.prog 135 #[.slice A0 l0.length c0,.string a1] w fun e w'=>e = .returned (.int .i64 r) ∧ Drawn0 w w':=by
 have HR0:=a0_ hr0
 have HC0:=a0_ hc0
 clear hr0 hc0
 have H : (spec_classNamed.l0 k l0 a1 0) = some r:=h
 clear h
 have H':=a0_ H
 clear H
 go_enter Try.func135,Try.ntmps135
 go_wp2
 go_loopg [5] k (fun kq v5 w'=>∃ (x5_1 : Int),v5 = .int .i64 x5_1 ∧ Aside0 (spec_classNamed.l0 kq l0 a1 x5_1 = some r) ∧ Aside0 (kq ≤ k) ∧ Drawn0 w w')
 case atStart=>exact ⟨(0),(by first | rfl | (simp;done) | (simp [*];done)),H',⟨Nat.le_refl _⟩,by repeat (first | exact Drawn0.refl _ | apply Drawn0.step)⟩
 case round =>
  clear H'
  try clear c1
  try clear p2
  obtain ⟨x5_1,rfl,HA,HK1,⟨m1,rfl⟩⟩:=hrel
  cases gk with
  | zero=>exact absurd HA.out (by simp [spec_classNamed.l0])
  | succ k1 =>
   have H:=HA.out
   clear HA
   simp only [spec_classNamed.l0] at H
   by_cases c3 : x5_1 < (l0.length : Int)
   ·rw [if_pos c3] at H
    have c3b0 : decide (x5_1 < (l0.length : Int)) = true:=decide_eq_true c3
    clear c3
    by_cases c4 : 0 ≤ x5_1
    ·rw [if_pos c4] at H
     have c4b0 : decide (0 ≤ x5_1) = true:=decide_eq_true c4
     clear c4
     by_cases c5 : ((rd_T125 l0 x5_1).f0).toList = a1.toList
     ·rw [if_pos c5] at H
      have c5b0 : (((rd_T125 l0 x5_1).f0).toList == a1.toList) = true:=beq_iff_eq.mpr c5
      have c5b1 : (((rd_T125 l0 x5_1).f0).toList != a1.toList) = false:=bne_eq_false_iff_eq.mpr c5
      clear c5
      obtain rfl:=Option.some.inj H
      have p1 : 0 ≤ (x5_1 : Int):=of_decide_eq_true (by first | (with_reducible assumption) | assumption)
      have q1 : x5_1 < (l0.length : Int):=of_decide_eq_true (by first | (with_reducible assumption) | assumption)
      obtain ⟨ad1,e1,hx1_0,hx1_1⟩:=at_T125 HR0.out x5_1 p1 q1
      cases e1
      replace p1:=eq_true p1
      replace q1:=eq_true q1
      go_wp2
      go_ret
      exact ⟨by first | rfl | (simp;done) | (simp [*];done),by repeat (first | exact Drawn0.refl _ | apply Drawn0.step)⟩
     ·rw [if_neg c5] at H
      have c5b0 : (((rd_T125 l0 x5_1).f0).toList == a1.toList) = false:=beq_eq_false_iff_ne.mpr c5
      have c5b1 : (((rd_T125 l0 x5_1).f0).toList != a1.toList) = true:=bne_iff_ne.mpr c5
      have H':=a0_ H
      clear H
      have p1 : 0 ≤ (x5_1 : Int):=of_decide_eq_true (by first | (with_reducible assumption) | assumption)
      have q1 : x5_1 < (l0.length : Int):=of_decide_eq_true (by first | (with_reducible assumption) | assumption)
      obtain ⟨ad1,e1,hx1_0,hx1_1⟩:=at_T125 HR0.out x5_1 p1 q1
      cases e1
      replace p1:=eq_true p1
      replace q1:=eq_true q1
      go_wp2
      go_roundg k1
      case measure=>have:=HK1.out;omega
      case rel=>exact ⟨(wrap64 (x5_1 + 1)),(by first | rfl | (simp;done) | (simp [*];done)),H',⟨by have:=HK1.out;omega⟩,by repeat (first | exact Drawn0.refl _ | apply Drawn0.step)⟩
    ·rw [if_neg c4] at H
     exact absurd H (by simp)
   ·rw [if_neg c3] at H
    have c3b0 : decide (x5_1 < (l0.length : Int)) = false:=decide_eq_false c3
    clear c3
    obtain rfl:=Option.some.inj H
    go_wp2
    go_ret
    exact ⟨by first | rfl | (simp;done) | (simp [*];done),by repeat (first | exact Drawn0.refl _ | apply Drawn0.step)⟩
theorem spec_classNamed_l0 (t : List Cls) (n : ByteArray) (hs : t.length ≤ 9223372036854775807) (d : Nat) : ∀ (k : Nat) (i : Nat),i ≤ t.length → t.length - i = d → d < k → (∀ j (hj : j < t.length),j < i → (t[j].f0.toList == n.toList) = false) → spec_classNamed.l0 k t n (i : Int) = some (named t n):=by
 induction d with
 | zero =>
  intro k i hi hd hk hA
  obtain ⟨k,rfl⟩ : ∃ m,k = m + 1:=⟨k - 1,by omega⟩
  simp only [spec_classNamed.l0]
  rw [if_neg (show ¬ (i : Int) < (t.length : Int) by omega)]
  unfold named
  rw [idxP_miss _ t (fun j hj=>hA j hj (by omega))]
 | succ d ih =>
  intro k i hi hd hk hA
  obtain ⟨k,rfl⟩ : ∃ m,k = m + 1:=⟨k - 1,by omega⟩
  have hlt : i < t.length:=by omega
  simp only [spec_classNamed.l0]
  have hrd : rd_T125 t (i : Int) = t[i]:=by simp [rd_T125,hlt]
  rw [if_pos (show (i : Int) < (t.length : Int) by omega),if_pos (show (0 : Int) ≤ (i : Int) by omega),hrd]
  by_cases h1 : t[i].f0.toList = n.toList
  ·rw [if_pos h1]
   unfold named
   rw [idxP_hit (fun x : Cls=>x.f0.toList == n.toList) t i hlt (beq_iff_eq.2 h1) hA]
  ·rw [if_neg h1,wrap_succ (n:=t.length) (by omega) (by omega) (by omega)]
   rw [show ((i : Int) + 1) = ((i + 1 : Nat) : Int) by omega]
   refine ih k (i + 1) (by omega) (by omega) (by omega) (fun j hj hji=>?_)
   by_cases e : j = i
   ·subst e;exact beq_eq_false_iff_ne.2 h1
   ·exact hA j hj (by omega)
theorem spec_classNamed_ev (t : List Cls) (n : ByteArray) (hs : t.length ≤ 9223372036854775807) : spec_classNamed.f (t.length + 1) t n = some (named t n):=by
 unfold spec_classNamed.f
 exact spec_classNamed_l0 t n hs t.length (t.length + 1) 0 (by omega) (by omega) (by omega) (fun j _ hj=>absurd hj (Nat.not_lt_zero _))
end Go.Proofs.Ytacgehaipacehaa.P
namespace Go.Proofs.Ytacgehaipacehaa.P
open Go.RowKit Go.Proofs.YtacgehaipacehaaW.PrintWords Go.Proofs.YtacgehaipacehaaW.PrintLast Go.Proofs.YtacgehaipacehaaW.PrintMore
attribute [local go_sem] max2_int min2_int max_two min_two max_three min_three max_four min_four
set_option linter.unusedVariables false
set_option linter.unusedSimpArgs false
def spec_validName.l0 : Nat → ByteArray → Int → Option (Bool)
 | 0,_,_=>none
 | k + 1,x0,x3=>if x3 < (x0.size : Int) then (if 0 ≤ x3 then (if (bt x0 x3) < 97 then (some false) else (if (bt x0 x3) > 122 then (some false) else (spec_validName.l0 k x0 (wrap64 (x3 + 1))))) else (none)) else ((spec_inRange.f (x0.size : Int) 1 6).bind fun t1=>(some t1))
def spec_validName.f (k : Nat) (a0 : ByteArray) : Option (Bool):=spec_validName.l0 k a0 0
theorem spec_validName.mono_l : ∀ k,(∀ y0 y1,LeO (spec_validName.l0 k y0 y1) (spec_validName.l0 (k + 1) y0 y1))
 | 0=>fun _ _ r h=>by simp [spec_validName.l0] at h
 | k + 1=>by
  have ih0:=spec_validName.mono_l k
  ·intro y0 y1
   unfold spec_validName.l0
   repeat' first
   | (with_reducible exact ih0 _ _)
   | (with_reducible exact LeO.refl _)
   | (with_reducible exact LeO.none _)
   | (with_reducible refine LeO.ite ?_ ?_)
   | (with_reducible refine LeO.bind ?_ (fun _=>?_))
   | exact ih0 _ _
   | exact LeO.none _
   | refine LeO.ite ?_ ?_
   | refine LeO.bind ?_ (fun _=>?_)
theorem spec_validName.mono : ∀ a0 k,LeO (spec_validName.f k a0) (spec_validName.f (k + 1) a0):=by
 intro a0 k
 have ih0:=spec_validName.mono_l k
 unfold spec_validName.f
 repeat' first
   | (with_reducible exact ih0 _ _)
   | (with_reducible exact LeO.refl _)
   | (with_reducible exact LeO.none _)
   | (with_reducible refine LeO.ite ?_ ?_)
   | (with_reducible refine LeO.bind ?_ (fun _=>?_))
   | exact ih0 _ _
   | exact LeO.none _
   | refine LeO.ite ?_ ?_
   | refine LeO.bind ?_ (fun _=>?_)
set_option maxHeartbeats 8000000 in
set_option maxRecDepth 100000 in
theorem spec_validName.calls (k : Nat) (a0 : ByteArray) (r : Bool) (w : World) (h : spec_validName.f k a0 = some r) :
  Calls Try.prog 149 #[.string a0] w fun e w'=>e = .returned (.bool r) ∧ Drawn0 w w':=by
 have H : (spec_validName.l0 k a0 0) = some r:=h
 clear h
 have H':=a0_ H
 clear H
 go_enter Try.func149,Try.ntmps149
 go_wp2
 go_loopg [3] k (fun kq v3 w'=>∃ (x3_1 : Int),v3 = .int .i64 x3_1 ∧ Aside0 (spec_validName.l0 kq a0 x3_1 = some r) ∧ Aside0 (kq ≤ k) ∧ Drawn0 w w')
 case atStart=>exact ⟨(0),(by first | rfl | (simp;done) | (simp [*];done)),H',⟨Nat.le_refl _⟩,by repeat (first | exact Drawn0.refl _ | apply Drawn0.step)⟩
 case round =>
  clear H'
  try clear c1
  obtain ⟨x3_1,rfl,HA,HK1,⟨m1,rfl⟩⟩:=hrel
  cases gk with
  | zero=>exact absurd HA.out (by simp [spec_validName.l0])
  | succ k1 =>
   have H:=HA.out
   clear HA
   simp only [spec_validName.l0] at H
   by_cases c2 : x3_1 < (a0.size : Int)
   ·rw [if_pos c2] at H
    have c2b0 : decide (x3_1 < (a0.size : Int)) = true:=decide_eq_true c2
    clear c2
    by_cases c3 : 0 ≤ x3_1
    ·rw [if_pos c3] at H
     have c3b0 : decide (0 ≤ x3_1) = true:=decide_eq_true c3
     clear c3
     by_cases c5 : (bt a0 x3_1) < 97
     ·rw [if_pos c5] at H
      have c5b0 : decide ((bt a0 x3_1) < 97) = true:=decide_eq_true c5
      clear c5
      obtain rfl:=Option.some.inj H
      have p4 : 0 ≤ (x3_1 : Int):=of_decide_eq_true (by first | (with_reducible assumption) | assumption)
      have q4 : x3_1 < (a0.size : Int):=of_decide_eq_true (by first | (with_reducible assumption) | assumption)
      have hx4:=bt_at a0 x3_1
      replace p4:=eq_true p4
      replace q4:=eq_true q4
      go_wp2
      go_ret
      exact ⟨by first | rfl | (simp;done) | (simp [*];done),by repeat (first | exact Drawn0.refl _ | apply Drawn0.step)⟩
     ·rw [if_neg c5] at H
      have c5b0 : decide ((bt a0 x3_1) < 97) = false:=decide_eq_false c5
      clear c5
      by_cases c7 : (bt a0 x3_1) > 122
      ·rw [if_pos c7] at H
       have c7b0 : decide (122 < (bt a0 x3_1)) = true:=decide_eq_true c7
       clear c7
       obtain rfl:=Option.some.inj H
       have p4 : 0 ≤ (x3_1 : Int):=of_decide_eq_true (by first | (with_reducible assumption) | assumption)
       have q4 : x3_1 < (a0.size : Int):=of_decide_eq_true (by first | (with_reducible assumption) | assumption)
       have hx4:=bt_at a0 x3_1
       replace p4:=eq_true p4
       replace q4:=eq_true q4
       have p6 : 0 ≤ (x3_1 : Int):=of_decide_eq_true (by first | (with_reducible assumption) | assumption)
       have q6 : x3_1 < (a0.size : Int):=of_decide_eq_true (by first | (with_reducible assumption) | assumption)
       have hx6:=bt_at a0 x3_1
       replace p6:=eq_true p6
       replace q6:=eq_true q6
       go_wp2
       go_ret
       exact ⟨by first | rfl | (simp;done) | (simp [*];done),by repeat (first | exact Drawn0.refl _ | apply Drawn0.step)⟩
      ·rw [if_neg c7] at H
       have c7b0 : decide (122 < (bt a0 x3_1)) = false:=decide_eq_false c7
       clear c7
       have H':=a0_ H
       clear H
       have p4 : 0 ≤ (x3_1 : Int):=of_decide_eq_true (by first | (with_reducible assumption) | assumption)
       have q4 : x3_1 < (a0.size : Int):=of_decide_eq_true (by first | (with_reducible assumption) | assumption)
       have hx4:=bt_at a0 x3_1
       replace p4:=eq_true p4
       replace q4:=eq_true q4
       have p6 : 0 ≤ (x3_1 : Int):=of_decide_eq_true (by first | (with_reducible assumption) | assumption)
       have q6 : x3_1 < (a0.size : Int):=of_decide_eq_true (by first | (with_reducible assumption) | assumption)
       have hx6:=bt_at a0 x3_1
       replace p6:=eq_true p6
       replace q6:=eq_true q6
       go_wp2
       go_roundg k1
       case measure=>have:=HK1.out;omega
       case rel=>exact ⟨(wrap64 (x3_1 + 1)),(by first | rfl | (simp;done) | (simp [*];done)),H',⟨by have:=HK1.out;omega⟩,by repeat (first | exact Drawn0.refl _ | apply Drawn0.step)⟩
    ·rw [if_neg c3] at H
     exact absurd H (by simp)
   ·rw [if_neg c2] at H
    have c2b0 : decide (x3_1 < (a0.size : Int)) = false:=decide_eq_false c2
    clear c2
    replace H:=Option.bind_eq_some_iff.mp H
    obtain ⟨t1,A80,H⟩:=H
    replace H : (some t1) = some r:=H
    have A8:=a0_ A80
    clear A80
    obtain rfl:=Option.some.inj H
    go_wp2_with (first | ((with_reducible refine gate_callee (f:=70) rfl ?_);refine goesL_ (some 22) rfl rfl Try.func70 (by kernel_rfl) rfl #[.int .i64 (a0.size : Int),.int .i64 1,.int .i64 6] rfl lm_ ?_;(with_reducible refine (spec_inRange.calls (a0.size : Int) 1 6 t1 _ A8.out).mono ?_);rintro e w' ⟨rfl,⟨nd,rfl⟩⟩;refine ⟨_,rfl,?_⟩))
    go_ret
    exact ⟨by first | rfl | (simp;done) | (simp [*];done),by repeat (first | exact Drawn0.refl _ | apply Drawn0.step)⟩
theorem spec_validName_l0 (s : ByteArray) (hs : s.size ≤ 9223372036854775807) (d : Nat) : ∀ (k : Nat) (i : Nat),i ≤ s.size → s.size - i = d → d < k → spec_validName.l0 k s (i : Int) = some ((s.data.toList.drop i).all (fun c=>decide (97 ≤ c.toNat) && decide (c.toNat ≤ 122)) && (decide (1 ≤ s.size) && decide (s.size ≤ 6))):=by
 induction d with
 | zero =>
  intro k i hi hd hk
  obtain ⟨k,rfl⟩ : ∃ m,k = m + 1:=⟨k - 1,by omega⟩
  simp only [spec_validName.l0]
  rw [if_neg (by omega)]
  have : s.data.toList.drop i = []:=by
   apply List.drop_eq_nil_of_le
   have : s.data.toList.length = s.size:=toL_len s
   omega
  rw [this]
  simp only [spec_inRange.f,List.all_nil,Bool.true_and]
  by_cases h1 : 1 ≤ s.size
  ·rw [if_pos (show (s.size : Int) ≥ 1 by omega)]
   by_cases h2 : s.size ≤ 6
   ·simp [h1,h2];omega
   ·simp [h2];omega
  ·rw [if_neg (show ¬ (1 : Int) ≤ s.size by omega)];simp [h1]
 | succ d ih =>
  intro k i hi hd hk
  obtain ⟨k,rfl⟩ : ∃ m,k = m + 1:=⟨k - 1,by omega⟩
  have hlt : i < s.size:=by omega
  have hl : s.data.toList.length = s.size:=toL_len s
  simp only [spec_validName.l0]
  rw [if_pos (show (i : Int) < (s.size : Int) by omega),if_pos (show (0 : Int) ≤ (i : Int) by omega),bt_getElem s i hlt]
  have hd2 : s.data.toList.drop i = s[i] :: s.data.toList.drop (i + 1):=by
   rw [List.drop_eq_getElem_cons (by omega)]
   congr 1
  rw [hd2,List.all_cons]
  by_cases h1 : (s[i].toNat : Int) < 97
  ·rw [if_pos h1];have : ¬ 97 ≤ s[i].toNat:=by omega
   simp [this]
  ·rw [if_neg h1]
   by_cases h2 : (s[i].toNat : Int) > 122
   ·rw [if_pos h2];have : ¬ s[i].toNat ≤ 122:=by omega
    simp [this]
   ·rw [if_neg h2,wrap_succ (n:=s.size) (by omega) (by omega) (by omega)]
    have:=ih k (i + 1) (by omega) (by omega) (by omega)
    rw [show ((i : Int) + 1) = ((i + 1 : Nat) : Int) by omega,this]
    have a : 97 ≤ s[i].toNat:=by omega
    have b : s[i].toNat ≤ 122:=by omega
    simp [a,b]
theorem spec_validName_ev (s : ByteArray) (hs : s.size ≤ 9223372036854775807) : spec_validName.f (s.size + 1) s = some (okName s):=by
 unfold spec_validName.f okName
 have:=spec_validName_l0 s hs s.size (s.size + 1) 0 (by omega) (by omega) (by omega)
 simpa using this
end Go.Proofs.Ytacgehaipacehaa.P
namespace Go.Proofs.Ytacgehaipacehaa.P
open Go.RowKit Go.Proofs.YtacgehaipacehaaW.PrintWords Go.Proofs.YtacgehaipacehaaW.PrintLast Go.Proofs.YtacgehaipacehaaW.PrintMore
attribute [local go_sem] max2_int min2_int max_two min_two max_three min_three max_four min_four
set_option linter.unusedVariables false
set_option linter.unusedSimpArgs false
theorem named_ahead (t : List Cls) (i : Nat) (hi : i < t.length) : (named (t.take i) t[i].f0 ≥ 0) ↔ ¬ named t t[i].f0 = (i : Int):=by
 have hself : (t[i].f0.toList == t[i].f0.toList) = true:=beq_self_eq_true _
 have hd:=idxP_nonneg (fun x : Cls=>x.f0.toList == t[i].f0.toList) (t.take i)
 unfold named
 by_cases hA : ∀ j (hj : j < t.length),j < i → (t[j].f0.toList == t[i].f0.toList) = false
 ·have h1 : idxP (fun x : Cls=>x.f0.toList == t[i].f0.toList) t = (i : Int):=idxP_hit _ t i hi hself hA
  have h2 : (t.take i).any (fun x : Cls=>x.f0.toList == t[i].f0.toList) = false:=by
   rw [List.any_eq_false]
   intro x hx
   obtain ⟨j,hj,rfl⟩:=List.getElem_of_mem hx
   have hj2 : j < i ∧ j < t.length:=by simp at hj;omega
   rw [List.getElem_take]
   simp [hA j hj2.2 hj2.1]
  rw [h2,decide_eq_false_iff_not] at hd
  constructor
  ·intro h;exact absurd h hd
  ·intro h;exact absurd h1 h
 ·have hex : ∃ j,∃ hj : j < t.length,j < i ∧ (t[j].f0.toList == t[i].f0.toList) = true:=by
   apply Classical.byContradiction
   intro hn
   apply hA
   intro j hj hji
   cases hb : (t[j].f0.toList == t[i].f0.toList) with
   | false=>rfl
   | true=>exact absurd ⟨j,hj,hji,hb⟩ hn
  obtain ⟨j,hj,hji,hb⟩:=hex
  have h2 : (t.take i).any (fun x : Cls=>x.f0.toList == t[i].f0.toList) = true:=by
   rw [List.any_eq_true]
   exact ⟨t[j],List.mem_take_iff_getElem.2 ⟨j,by omega,rfl⟩,hb⟩
  rw [h2,decide_eq_true_eq] at hd
  constructor
  ·intro _ h
   unfold idxP at h
   cases hf : t.findIdx? (fun x : Cls=>x.f0.toList == t[i].f0.toList) with
   | none=>rw [hf] at h;simp at h
   | some m =>
    rw [hf] at h
    have hm : m = i:=by have h' : (m : Int) = (i : Int):=h;omega
    subst hm
    rw [List.findIdx?_eq_some_iff_getElem] at hf
    obtain ⟨_,_,hf⟩:=hf
    exact absurd hb (by simpa using hf j hji)
  ·intro _;exact hd
def spec_validTree.f (l0_0 : List (S125)) : Option Bool:=if smT l0_0 = true then some (vT l0_0) else none
set_option maxHeartbeats 4000000 in
set_option maxRecDepth 100000 in
theorem spec_validTree.calls (A0_0 : Option Addr) (c0_0 : Nat) (l0_0 : List (S125)) (r : Bool) (w : World) (hr0_0 : Kd.C k125 w A0_0 l0_0.length l0_0) (hc0_0 : l0_0.length ≤ c0_0) (h : spec_validTree.f l0_0 = some r) :
  Calls Try.prog 107 #[.agg #[.slice A0_0 l0_0.length c0_0]] w fun e w'=>e = .returned (.bool r) ∧ Below w.heap.size w w':=by
 have hu31:=Try.underlying25
 have hsm : smT l0_0 = true:=by
  apply Classical.byContradiction
  intro hn
  rw [spec_validTree.f,if_neg hn] at h
  cases h
 rw [spec_validTree.f,if_pos hsm] at h
 have HRr:=a0_ (Option.some.inj h)
 have HSM:=a0_ hsm
 have HR:=a0_ hr0_0
 have hmax : l0_0.length ≤ 9223372036854775807:=hr0_0.2.1
 clear h hsm hr0_0
 go_enter Try.func107,Try.ntmps107
 go_wp2
 go_loopg [3] l0_0.length (fun gg s3 wr=>∃ kk : Nat,kk ≤ l0_0.length ∧ l0_0.length - kk ≤ gg ∧ s3 = .int .i64 kk ∧ Aside0 (Below w.heap.size w wr) ∧ Aside0 (wr.heap[w.heap.size]? = some (.cells #[.slice A0_0 l0_0.length c0_0] 25 (0,0))) ∧ Aside0 (∀ j,j < kk → okCls l0_0 j (l0_0.getD j z125) = true))
 case atStart=>exact ⟨0,Nat.zero_le _,by omega,rfl,⟨below1 w _⟩,⟨heap_new1 w _⟩,⟨fun j hj=>absurd hj (Nat.not_lt_zero _)⟩⟩
 case round =>
  obtain ⟨kk,hkk,hg,rfl,BW,BK,HA⟩:=hrel
  have hcz : wr.cell? ⟨w.heap.size,0,none⟩ = some (.slice A0_0 l0_0.length c0_0):=(blk_cell BK.out 0).trans rfl
  by_cases hlt : kk < l0_0.length
  ·have hltz : (kk : Int) < (l0_0.length : Int):=by omega
   obtain ⟨ad,ea,hx0,hx1⟩:=at_T125 HR.out (kk : Int) (by omega) (by omega)
   cases ea
   have hrd : rd_T125 l0_0 (kk : Int) = l0_0[kk]:=by simp [rd_T125,hlt]
   rw [hrd] at hx0 hx1
   rw [Int.toNat_natCast] at hx0 hx1
   replace hx0:=(BW.out.cell (World.block_lt_of_cell? w _ hx0)).trans hx0
   replace hx1:=(BW.out.cell (World.block_lt_of_cell? w _ hx1)).trans hx1
   clear hrd
   generalize hy : l0_0[kk] = y at hx0 hx1
   have B:=a0_ hy
   clear hy
   go_upto_region 5 with (fail)
   have hW1:=a0_ (below_alloc BW.out (.cells #[.string y.f0,.int .i64 y.f1] 125))
   have hW2:=a0_ (blk_alloc BK.out (.cells #[.string y.f0,.int .i64 y.f1] 125))
   have hW3:=(blk_cell hW2.out 0).trans rfl
   have hW4:=(blk_cell (heap_new1 wr (.cells #[.string y.f0,.int .i64 y.f1] 125)) 0).trans rfl
   have hW5:=(blk_cell (heap_new1 wr (.cells #[.string y.f0,.int .i64 y.f1] 125)) 1).trans rfl
   clear hcz hx0 hx1 BW BK
   generalize wr.alloc (.cells #[.string y.f0,.int .i64 y.f1] 125) = W1 at hW1 hW2 hW3 hW4 hW5 ⊢
   generalize wr.heap.size = gb at hW4 hW5 ⊢
   have hy1 : y.f0.size ≤ 9223372036854775806:=by rw [← B.out];exact smT_at HSM.out kk hlt
   have A1:=a0_ (spec_validName_ev y.f0 (by omega))
   have hlen : (l0_0.take kk).length = kk:=by simp;omega
   have hcn0:=fun (W : World) (hW : Below w.heap.size w W)=>spec_classNamed.calls _ (some ad) c0_0 (l0_0.take kk) y.f0 _ W (by
    have h1:=Kd.C_take (Kd.C_below HR.out hW) (show kk ≤ l0_0.length by omega)
    exact h1) (by rw [hlen];omega) (spec_classNamed_ev (l0_0.take kk) y.f0 (by rw [hlen];omega))
   rw [hlen] at hcn0
   have hahead:=named_ahead l0_0 kk hlt
   rw [B.out] at hahead
   have hok : okCls l0_0 kk (l0_0.getD kk z125) = okCls l0_0 kk y:=by
    rw [← B.out];simp [List.getD,hlt]
   have hdef : okCls l0_0 kk y = (okName y.f0 && (decide (named l0_0 y.f0 = (kk : Int)) && (if kk = 0 then decide (y.f1 = -1) else decide (0 ≤ y.f1) && decide (y.f1 ≤ (kk : Int) - 1)))):=rfl
   generalize hnn : named (l0_0.take kk) y.f0 = nn at hcn0 hahead
   have HCN:=a0_ hcn0
   have HAH:=a0_ hahead
   have HOK:=a0_ hok
   have HDF:=a0_ hdef
   clear hcn0 hahead hok hdef hnn hlen hy1
   have hcut : ∀ W : World,(Instr.slice 23 (.slice (some ad) l0_0.length c0_0) none (some (.int .i64 (kk : Int))) none).run Try.prog W = .ok (.slice (some ad) kk c0_0) W:=by
    obtain ⟨i0,hi0,_,hsz,_⟩:=info_parts info125
    have h1:=cut_to (P:=Try.prog) 23 125 .i64 Try.underlying23 hi0 (some ad) l0_0.length c0_0 (kk : Int) (by omega) (by omega) hc0_0
    rw [Int.toNat_natCast] at h1
    exact h1
   go_cut [51] (fun v51 wc=>v51 = .bool (!okCls l0_0 kk y) ∧ Aside0 (Below w.heap.size w wc) ∧ Aside0 (wc.heap[w.heap.size]? = some (.cells #[.slice (some ad) l0_0.length c0_0] 25 (0,0))))
   case first =>
    have hw1 : IntKind.i64.wrap ((kk : Int) - 1) = (kk : Int) - 1:=by rw [IntKind.wrap_i64];omega
    have A2:=a0_ (show spec_inRange.f y.f1 0 ((kk : Int) - 1) = some (decide (0 ≤ y.f1) && decide (y.f1 ≤ (kk : Int) - 1)) by
     unfold spec_inRange.f
     by_cases h0 : 0 ≤ y.f1
     ·rw [if_pos h0];simp [h0]
     ·rw [if_neg h0];simp [h0])
    cases hb1 : okName y.f0 with
    | false =>
     rw [hb1] at A1
     have BV : okCls l0_0 kk y = false:=by rw [HDF.out,hb1];rfl
     clear HDF HAH HOK
     go_quiet (first
     | (go_at_call 149;(with_reducible refine (spec_validName.calls _ y.f0 _ _ A1.out).mono ?_);rintro e w' ⟨rfl,⟨nd,rfl⟩⟩;exact ⟨rfl,_,World.drewN_drewN _ _ _⟩)
     | (go_at_call 135;(with_reducible refine (HCN.out _ (pw_below_drewN hW1.out _)).mono ?_);rintro e w' ⟨rfl,⟨nd,rfl⟩⟩;exact ⟨rfl,_,World.drewN_drewN _ _ _⟩)
     | (go_at_call 70;(with_reducible refine (spec_inRange.calls y.f1 0 ((kk : Int) - 1) _ _ A2.out).mono ?_);rintro e w' ⟨rfl,⟨nd,rfl⟩⟩;exact ⟨rfl,_,World.drewN_drewN _ _ _⟩))
     go_wp2
     go_meet
     case rel=>exact ⟨by (rw [BV]);first | rfl | (simp [*];done),⟨pw_below_drewN hW1.out _⟩,⟨blk_drewN hW2.out _⟩⟩
    | true =>
     rw [hb1] at A1
     by_cases hb2 : nn ≥ 0
     ·have BV : okCls l0_0 kk y = false:=by rw [HDF.out,hb1,decide_eq_false (HAH.out.1 hb2)];rfl
      have d2 : decide (0 ≤ nn) = true:=decide_eq_true hb2
      clear HDF HAH HOK hb2
      go_quiet (first
     | (go_at_call 149;(with_reducible refine (spec_validName.calls _ y.f0 _ _ A1.out).mono ?_);rintro e w' ⟨rfl,⟨nd,rfl⟩⟩;exact ⟨rfl,_,World.drewN_drewN _ _ _⟩)
     | (go_at_call 135;(with_reducible refine (HCN.out _ (pw_below_drewN hW1.out _)).mono ?_);rintro e w' ⟨rfl,⟨nd,rfl⟩⟩;exact ⟨rfl,_,World.drewN_drewN _ _ _⟩)
     | (go_at_call 70;(with_reducible refine (spec_inRange.calls y.f1 0 ((kk : Int) - 1) _ _ A2.out).mono ?_);rintro e w' ⟨rfl,⟨nd,rfl⟩⟩;exact ⟨rfl,_,World.drewN_drewN _ _ _⟩))
      go_wp2
      go_meet
      case rel=>exact ⟨by (rw [BV]);first | rfl | (simp [*];done),⟨pw_below_drewN hW1.out _⟩,⟨blk_drewN hW2.out _⟩⟩
     ·have hnm : named l0_0 y.f0 = (kk : Int):=Classical.byContradiction fun hn=>hb2 (HAH.out.2 hn)
      have d2 : decide (0 ≤ nn) = false:=decide_eq_false hb2
      have BV0 : okCls l0_0 kk y = (if kk = 0 then decide (y.f1 = -1) else decide (0 ≤ y.f1) && decide (y.f1 ≤ (kk : Int) - 1)):=by rw [HDF.out,hb1,decide_eq_true hnm];rfl
      clear HDF HAH HOK hb2 hnm
      by_cases hk0 : kk = 0
      ·have BV : okCls l0_0 kk y = decide (y.f1 = -1):=by rw [BV0,if_pos hk0]
       have e0 : ((kk : Int) == 0) = true:=beq_iff_eq.2 (by omega)
       have e1 : decide (0 < (kk : Int)) = false:=decide_eq_false (by omega)
       have e1n : decide (0 < kk) = false:=decide_eq_false (by omega)
       clear BV0
       by_cases hp : y.f1 = -1
       ·have e2 : (y.f1 != -1) = false:=by rw [hp];rfl
        have e3 : (y.f1 == -1) = true:=by rw [hp];rfl
        rw [decide_eq_true hp] at BV
        clear hp hk0
        go_quiet (first
     | (go_at_call 149;(with_reducible refine (spec_validName.calls _ y.f0 _ _ A1.out).mono ?_);rintro e w' ⟨rfl,⟨nd,rfl⟩⟩;exact ⟨rfl,_,World.drewN_drewN _ _ _⟩)
     | (go_at_call 135;(with_reducible refine (HCN.out _ (pw_below_drewN hW1.out _)).mono ?_);rintro e w' ⟨rfl,⟨nd,rfl⟩⟩;exact ⟨rfl,_,World.drewN_drewN _ _ _⟩)
     | (go_at_call 70;(with_reducible refine (spec_inRange.calls y.f1 0 ((kk : Int) - 1) _ _ A2.out).mono ?_);rintro e w' ⟨rfl,⟨nd,rfl⟩⟩;exact ⟨rfl,_,World.drewN_drewN _ _ _⟩))
        go_wp2
        go_meet
        case rel=>exact ⟨by (rw [BV]);first | rfl | (simp [*];done),⟨pw_below_drewN hW1.out _⟩,⟨blk_drewN hW2.out _⟩⟩
       ·have e2 : (y.f1 != -1) = true:=bne_iff_ne.2 hp
        have e3 : (y.f1 == -1) = false:=beq_eq_false_iff_ne.2 hp
        rw [decide_eq_false hp] at BV
        clear hp hk0
        go_quiet (first
     | (go_at_call 149;(with_reducible refine (spec_validName.calls _ y.f0 _ _ A1.out).mono ?_);rintro e w' ⟨rfl,⟨nd,rfl⟩⟩;exact ⟨rfl,_,World.drewN_drewN _ _ _⟩)
     | (go_at_call 135;(with_reducible refine (HCN.out _ (pw_below_drewN hW1.out _)).mono ?_);rintro e w' ⟨rfl,⟨nd,rfl⟩⟩;exact ⟨rfl,_,World.drewN_drewN _ _ _⟩)
     | (go_at_call 70;(with_reducible refine (spec_inRange.calls y.f1 0 ((kk : Int) - 1) _ _ A2.out).mono ?_);rintro e w' ⟨rfl,⟨nd,rfl⟩⟩;exact ⟨rfl,_,World.drewN_drewN _ _ _⟩))
        go_wp2
        go_meet
        case rel=>exact ⟨by (rw [BV]);first | rfl | (simp [*];done),⟨pw_below_drewN hW1.out _⟩,⟨blk_drewN hW2.out _⟩⟩
      ·have BV : okCls l0_0 kk y = (decide (0 ≤ y.f1) && decide (y.f1 ≤ (kk : Int) - 1)):=by rw [BV0,if_neg hk0]
       have e0 : ((kk : Int) == 0) = false:=beq_eq_false_iff_ne.2 (by omega)
       have e1 : decide (0 < (kk : Int)) = true:=decide_eq_true (by omega)
       have e1n : decide (0 < kk) = true:=decide_eq_true (by omega)
       rw [← BV] at A2
       clear BV BV0 hk0
       cases BV : okCls l0_0 kk y with
       | false =>
        rw [BV] at A2
        go_quiet (first
     | (go_at_call 149;(with_reducible refine (spec_validName.calls _ y.f0 _ _ A1.out).mono ?_);rintro e w' ⟨rfl,⟨nd,rfl⟩⟩;exact ⟨rfl,_,World.drewN_drewN _ _ _⟩)
     | (go_at_call 135;(with_reducible refine (HCN.out _ (pw_below_drewN hW1.out _)).mono ?_);rintro e w' ⟨rfl,⟨nd,rfl⟩⟩;exact ⟨rfl,_,World.drewN_drewN _ _ _⟩)
     | (go_at_call 70;(with_reducible refine (spec_inRange.calls y.f1 0 ((kk : Int) - 1) _ _ A2.out).mono ?_);rintro e w' ⟨rfl,⟨nd,rfl⟩⟩;exact ⟨rfl,_,World.drewN_drewN _ _ _⟩))
        go_wp2
        go_meet
        case rel=>exact ⟨by (rw [BV]);first | rfl | (simp [*];done),⟨pw_below_drewN hW1.out _⟩,⟨blk_drewN hW2.out _⟩⟩
       | true =>
        rw [BV] at A2
        go_quiet (first
     | (go_at_call 149;(with_reducible refine (spec_validName.calls _ y.f0 _ _ A1.out).mono ?_);rintro e w' ⟨rfl,⟨nd,rfl⟩⟩;exact ⟨rfl,_,World.drewN_drewN _ _ _⟩)
     | (go_at_call 135;(with_reducible refine (HCN.out _ (pw_below_drewN hW1.out _)).mono ?_);rintro e w' ⟨rfl,⟨nd,rfl⟩⟩;exact ⟨rfl,_,World.drewN_drewN _ _ _⟩)
     | (go_at_call 70;(with_reducible refine (spec_inRange.calls y.f1 0 ((kk : Int) - 1) _ _ A2.out).mono ?_);rintro e w' ⟨rfl,⟨nd,rfl⟩⟩;exact ⟨rfl,_,World.drewN_drewN _ _ _⟩))
        go_wp2
        go_meet
        case rel=>exact ⟨by (rw [BV]);first | rfl | (simp [*];done),⟨pw_below_drewN hW1.out _⟩,⟨blk_drewN hW2.out _⟩⟩
   case rest =>
    obtain ⟨rfl,hW,hK⟩:=hcut
    have hb:=HOK.out
    cases BV : okCls l0_0 kk y with
    | false =>
     go_wp2
     go_ret
     refine ⟨?_,hW.out⟩
     rw [← HRr.out]
     have : vT l0_0 = false:=by
      cases hv : vT l0_0 with
      | false=>rfl
      | true=>have:=vT_at hv kk hlt;rw [HOK.out,BV] at this;cases this
     rw [this];rfl
    | true =>
     go_wp2
     go_roundg (l0_0.length - (kk + 1))
     case measure=>omega
     case rel =>
      refine ⟨kk + 1,by omega,by omega,by go_num,⟨hW.out⟩,⟨hK.out⟩,⟨fun j hj=>?_⟩⟩
      by_cases e : j = kk
      ·subst e;rw [HOK.out,BV]
      ·exact HA.out j (by omega)
  ·have hltz : ¬ (kk : Int) < (l0_0.length : Int):=by omega
   have : kk = l0_0.length:=by omega
   subst this
   have A3:=a0_ (show spec_inRange.f (l0_0.length : Int) 1 8 = some (vT l0_0) by
    have hall : (List.range l0_0.length).all (fun i=>okCls l0_0 i (l0_0.getD i z125)) = true:=by
     rw [List.all_eq_true];intro i hi;exact HA.out i (by simpa using hi)
    unfold spec_inRange.f vT
    rw [hall]
    by_cases h1 : (1 : Int) ≤ l0_0.length
    ·rw [if_pos h1]
     have h1' : 1 ≤ l0_0.length:=by omega
     by_cases h8 : l0_0.length ≤ 8
     ·simp [h1',h8];omega
     ·simp [h8];omega
    ·rw [if_neg h1]
     have h1' : ¬ 1 ≤ l0_0.length:=by omega
     simp [h1'])
   rw [HRr.out] at A3
   go_wp2_with (go_at_call 70;(with_reducible refine (spec_inRange.calls (l0_0.length : Int) 1 8 _ _ A3.out).mono ?_);rintro e w' ⟨rfl,⟨nd,rfl⟩⟩)
   go_ret
   exact ⟨rfl,pw_below_drewN BW.out _⟩
end Go.Proofs.Ytacgehaipacehaa.P
namespace Go.Proofs.Ytacgehaipacehaa.P
open Go.RowKit Go.Proofs.YtacgehaipacehaaW.PrintWords Go.Proofs.YtacgehaipacehaaW.PrintLast Go.Proofs.YtacgehaipacehaaW.PrintMore
attribute [local go_sem] max2_int min2_int max_two min_two max_three min_three max_four min_four
set_option linter.unusedVariables false
set_option linter.unusedSimpArgs false
theorem sz1_treeText (b : UInt8) : (⟨#[b]⟩ : ByteArray).size = 1:=rfl
def spec_treeText.l0 : Nat → ByteArray → Int → List (S125) → Option (ByteArray)
 | 0,_,_,_=>none
 | k + 1,x3,x4,x2000=>if x4 < (x2000.length : Int) then (if 0 ≤ x4 then (if x3.size + ((rd_T125 x2000 x4).f0).size ≤ 9223372036854775807 then (if x4 > 0 then (if (x3 ++ ((rd_T125 x2000 x4).f0)).size + 1 ≤ 9223372036854775807 then (if 0 ≤ ((rd_T125 x2000 x4).f1) then (if ((rd_T125 x2000 x4).f1) < (x2000.length : Int) then (if ((x3 ++ ((rd_T125 x2000 x4).f0)) ++ (⟨#[32]⟩ : ByteArray)).size + ((rd_T125 x2000 ((rd_T125 x2000 x4).f1)).f0).size ≤ 9223372036854775807 then (if (((x3 ++ ((rd_T125 x2000 x4).f0)) ++ (⟨#[32]⟩ : ByteArray)) ++ ((rd_T125 x2000 ((rd_T125 x2000 x4).f1)).f0)).size + 1 ≤ 9223372036854775807 then (spec_treeText.l0 k ((((x3 ++ ((rd_T125 x2000 x4).f0)) ++ (⟨#[32]⟩ : ByteArray)) ++ ((rd_T125 x2000 ((rd_T125 x2000 x4).f1)).f0)) ++ (⟨#[10]⟩ : ByteArray)) (wrap64 (x4 + 1)) x2000) else (none)) else (none)) else (none)) else (none)) else (none)) else (if (x3 ++ ((rd_T125 x2000 x4).f0)).size + 1 ≤ 9223372036854775807 then (spec_treeText.l0 k ((x3 ++ ((rd_T125 x2000 x4).f0)) ++ (⟨#[10]⟩ : ByteArray)) (wrap64 (x4 + 1)) x2000) else (none))) else (none)) else (none)) else (some x3)
def spec_treeText.f (k : Nat) (l0_0 : List (S125)) : Option (ByteArray):=spec_treeText.l0 k (⟨#[]⟩ : ByteArray) 0 l0_0
theorem spec_treeText.mono_l : ∀ k,(∀ y0 y1 y2,LeO (spec_treeText.l0 k y0 y1 y2) (spec_treeText.l0 (k + 1) y0 y1 y2))
 | 0=>fun _ _ _ r h=>by simp [spec_treeText.l0] at h
 | k + 1=>by
  have ih0:=spec_treeText.mono_l k
  ·intro y0 y1 y2
   unfold spec_treeText.l0
   repeat' first
   | (with_reducible exact ih0 _ _ _)
   | (with_reducible exact LeO.refl _)
   | (with_reducible exact LeO.none _)
   | (with_reducible refine LeO.ite ?_ ?_)
   | (with_reducible refine LeO.bind ?_ (fun _=>?_))
   | exact ih0 _ _ _
   | exact LeO.none _
   | refine LeO.ite ?_ ?_
   | refine LeO.bind ?_ (fun _=>?_)
theorem spec_treeText.mono : ∀ a0 k,LeO (spec_treeText.f k a0) (spec_treeText.f (k + 1) a0):=by
 intro a0 k
 have ih0:=spec_treeText.mono_l k
 unfold spec_treeText.f
 repeat' first
   | (with_reducible exact ih0 _ _ _)
   | (with_reducible exact LeO.refl _)
   | (with_reducible exact LeO.none _)
   | (with_reducible refine LeO.ite ?_ ?_)
   | (with_reducible refine LeO.bind ?_ (fun _=>?_))
   | exact ih0 _ _ _
   | exact LeO.none _
   | refine LeO.ite ?_ ?_
   | refine LeO.bind ?_ (fun _=>?_)
set_option maxHeartbeats 8000000 in
set_option maxRecDepth 100000 in
theorem spec_treeText.calls (k : Nat) (A0_0 : Option Addr) (c0_0 : Nat) (l0_0 : List (S125)) (r : ByteArray) (w : World) (hr0_0 : Kd.C k125 w A0_0 l0_0.length l0_0) (hc0_0 : l0_0.length ≤ c0_0) (h : spec_treeText.f k l0_0 = some r) :
  Calls Try.prog 108 #[.agg #[.slice A0_0 l0_0.length c0_0]] w fun e w'=>e = .returned (.string r) ∧ Below w.heap.size w w':=by
 have hu25:=Try.underlying25
 have HR0_0:=a0_ hr0_0
 have HC0_0:=a0_ hc0_0
 clear hr0_0 hc0_0
 have HB:=a0_ (Below.refl w.heap.size w)
 have H : (spec_treeText.l0 k (⟨#[]⟩ : ByteArray) 0 l0_0) = some r:=h
 clear h
 have H':=a0_ H
 clear H
 go_enter Try.func108,Try.ntmps108
 go_wp2_with (first | ((with_reducible refine gate_dst (N:=1) rfl ?_);refine box_event ?hg (N:=1) ?hd (cs:=#[.slice A0_0 l0_0.length c0_0]) (t:=25) ?hr ?_;(case hd=>rfl);(case hg=>rfl);(case hr=>first | (go_simp;done) | (go_simp;rfl));intro gb1 hg w2 hbox hb;have BK1:=a0_ (hbox);have GW1:=a0_ ((by rw [hg];exact (below_size hbw_) : w.heap.size ≤ gb1));have GE1:=a0_ ((by rw [hg];exact (below_size hbw_) : w.heap.size ≤ gb1));replace HB:=a0_ (below_step hbw_ hb);clear hb hbox hg))
 repeat (go_quiet (first | ((with_reducible refine gate_dst (N:=1) rfl ?_);refine box_event ?hg (N:=1) ?hd (cs:=#[.slice A0_0 l0_0.length c0_0]) (t:=25) ?hr ?_;(case hd=>rfl);(case hg=>rfl);(case hr=>first | (go_simp;done) | (go_simp;rfl));intro gb1 hg w2 hbox hb;have BK1:=a0_ (hbox);have GW1:=a0_ ((by rw [hg];exact (below_size hbw_) : w.heap.size ≤ gb1));have GE1:=a0_ ((by rw [hg];exact (below_size hbw_) : w.heap.size ≤ gb1));replace HB:=a0_ (below_step hbw_ hb);clear hb hbox hg));try go_wp2_with (first | ((with_reducible refine gate_dst (N:=1) rfl ?_);refine box_event ?hg (N:=1) ?hd (cs:=#[.slice A0_0 l0_0.length c0_0]) (t:=25) ?hr ?_;(case hd=>rfl);(case hg=>rfl);(case hr=>first | (go_simp;done) | (go_simp;rfl));intro gb1 hg w2 hbox hb;have BK1:=a0_ (hbox);have GW1:=a0_ ((by rw [hg];exact (below_size hbw_) : w.heap.size ≤ gb1));have GE1:=a0_ ((by rw [hg];exact (below_size hbw_) : w.heap.size ≤ gb1));replace HB:=a0_ (below_step hbw_ hb);clear hb hbox hg)))
 go_loopg [3,4] k (fun kq v3 v4 w'=>∃ (x3_1 : ByteArray) (x4_1 : Int),v3 = .string x3_1 ∧ v4 = .int .i64 x4_1 ∧ Aside0 (spec_treeText.l0 kq x3_1 x4_1 l0_0 = some r) ∧ Aside0 (kq ≤ k) ∧ Aside0 (w'.heap[gb1]? = some (.cells #[(.slice A0_0 l0_0.length c0_0)] 25 (0,0))) ∧ Aside0 (Below w.heap.size w w'))
 case atStart=>exact ⟨((⟨#[]⟩ : ByteArray)),(0),(by first | rfl | (simp;done) | (simp [*];done)),(by first | rfl | (simp;done) | (simp [*];done)),H',⟨Nat.le_refl _⟩,⟨by (with_reducible repeat (first | refine blk_drewN ?_ _ | refine blk_drew ?_ | refine blk_alloc ?_ _));exact BK1.out⟩,⟨hbw_⟩⟩
 case round =>
  clear H'
  try clear c1
  try clear p2
  obtain ⟨x3_1,x4_1,rfl,rfl,HA,HK1,BK1,HB⟩:=hrel
  cases gk with
  | zero=>exact absurd HA.out (by simp [spec_treeText.l0])
  | succ k1 =>
   have H:=HA.out
   clear HA
   simp only [spec_treeText.l0] at H
   by_cases c3 : x4_1 < (l0_0.length : Int)
   ·rw [if_pos c3] at H
    have c3b0 : decide (x4_1 < (l0_0.length : Int)) = true:=decide_eq_true c3
    clear c3
    by_cases c4 : 0 ≤ x4_1
    ·rw [if_pos c4] at H
     have c4b0 : decide (0 ≤ x4_1) = true:=decide_eq_true c4
     clear c4
     by_cases c5 : x3_1.size + ((rd_T125 l0_0 x4_1).f0).size ≤ 9223372036854775807
     ·rw [if_pos c5] at H
      have c5b0:=eq_true c5
      have c5b1 : decide (x3_1.size + ((rd_T125 l0_0 x4_1).f0).size ≤ 9223372036854775807) = true:=decide_eq_true c5
      try have c5b2 : (9223372036854775807 < x3_1.size + ((rd_T125 l0_0 x4_1).f0).size) = False:=eq_false (Nat.not_lt.2 c5)
      try (have c5b3:=c5b2;simp only [ByteArray.size_append,sz1_treeText] at c5b3)
      by_cases c6 : x4_1 > 0
      ·rw [if_pos c6] at H
       have c6b0 : decide (0 < x4_1) = true:=decide_eq_true c6
       clear c6
       by_cases c7 : (x3_1 ++ ((rd_T125 l0_0 x4_1).f0)).size + 1 ≤ 9223372036854775807
       ·rw [if_pos c7] at H
        have c7b0:=eq_true c7
        have c7b1 : decide ((x3_1 ++ ((rd_T125 l0_0 x4_1).f0)).size + 1 ≤ 9223372036854775807) = true:=decide_eq_true c7
        try have c7b2 : (9223372036854775807 < (x3_1 ++ ((rd_T125 l0_0 x4_1).f0)).size + 1) = False:=eq_false (Nat.not_lt.2 c7)
        try (have c7b3:=c7b2;simp only [ByteArray.size_append,sz1_treeText] at c7b3)
        by_cases c8 : 0 ≤ ((rd_T125 l0_0 x4_1).f1)
        ·rw [if_pos c8] at H
         have c8b0 : decide (0 ≤ ((rd_T125 l0_0 x4_1).f1)) = true:=decide_eq_true c8
         clear c8
         by_cases c9 : ((rd_T125 l0_0 x4_1).f1) < (l0_0.length : Int)
         ·rw [if_pos c9] at H
          have c9b0 : decide (((rd_T125 l0_0 x4_1).f1) < (l0_0.length : Int)) = true:=decide_eq_true c9
          clear c9
          by_cases c10 : ((x3_1 ++ ((rd_T125 l0_0 x4_1).f0)) ++ (⟨#[32]⟩ : ByteArray)).size + ((rd_T125 l0_0 ((rd_T125 l0_0 x4_1).f1)).f0).size ≤ 9223372036854775807
          ·rw [if_pos c10] at H
           have c10b0:=eq_true c10
           have c10b1 : decide (((x3_1 ++ ((rd_T125 l0_0 x4_1).f0)) ++ (⟨#[32]⟩ : ByteArray)).size + ((rd_T125 l0_0 ((rd_T125 l0_0 x4_1).f1)).f0).size ≤ 9223372036854775807) = true:=decide_eq_true c10
           try have c10b2 : (9223372036854775807 < ((x3_1 ++ ((rd_T125 l0_0 x4_1).f0)) ++ (⟨#[32]⟩ : ByteArray)).size + ((rd_T125 l0_0 ((rd_T125 l0_0 x4_1).f1)).f0).size) = False:=eq_false (Nat.not_lt.2 c10)
           try (have c10b3:=c10b2;simp only [ByteArray.size_append,sz1_treeText] at c10b3)
           by_cases c11 : (((x3_1 ++ ((rd_T125 l0_0 x4_1).f0)) ++ (⟨#[32]⟩ : ByteArray)) ++ ((rd_T125 l0_0 ((rd_T125 l0_0 x4_1).f1)).f0)).size + 1 ≤ 9223372036854775807
           ·rw [if_pos c11] at H
            have c11b0:=eq_true c11
            have c11b1 : decide ((((x3_1 ++ ((rd_T125 l0_0 x4_1).f0)) ++ (⟨#[32]⟩ : ByteArray)) ++ ((rd_T125 l0_0 ((rd_T125 l0_0 x4_1).f1)).f0)).size + 1 ≤ 9223372036854775807) = true:=decide_eq_true c11
            try have c11b2 : (9223372036854775807 < (((x3_1 ++ ((rd_T125 l0_0 x4_1).f0)) ++ (⟨#[32]⟩ : ByteArray)) ++ ((rd_T125 l0_0 ((rd_T125 l0_0 x4_1).f1)).f0)).size + 1) = False:=eq_false (Nat.not_lt.2 c11)
            try (have c11b3:=c11b2;simp only [ByteArray.size_append,sz1_treeText] at c11b3)
            have H':=a0_ H
            clear H
            have hcz12_0 : wr.cell? ⟨gb1,0,none⟩ = some (.slice A0_0 l0_0.length c0_0):=(blk_cell BK1.out 0).trans rfl
            have hfz12_0:=blk_frozen BK1.out 0
            have p2 : 0 ≤ (x4_1 : Int):=of_decide_eq_true (by first | (with_reducible assumption) | assumption)
            have q2 : x4_1 < (l0_0.length : Int):=of_decide_eq_true (by first | (with_reducible assumption) | assumption)
            obtain ⟨ad2,e2,hx2_0,hx2_1⟩:=at_T125 HR0_0.out x4_1 p2 q2
            cases e2
            replace hx2_0:=(HB.out.cell (World.block_lt_of_cell? w _ hx2_0)).trans hx2_0
            replace hx2_1:=(HB.out.cell (World.block_lt_of_cell? w _ hx2_1)).trans hx2_1
            replace p2:=eq_true p2
            replace q2:=eq_true q2
            have p3 : 0 ≤ (x4_1 : Int):=of_decide_eq_true (by first | (with_reducible assumption) | assumption)
            have q3 : x4_1 < (l0_0.length : Int):=of_decide_eq_true (by first | (with_reducible assumption) | assumption)
            obtain ⟨ad3,e3,hx3_0,hx3_1⟩:=at_T125 HR0_0.out x4_1 p3 q3
            obtain rfl : ad2 = ad3:=(by injection e3)
            replace hx3_0:=(HB.out.cell (World.block_lt_of_cell? w _ hx3_0)).trans hx3_0
            replace hx3_1:=(HB.out.cell (World.block_lt_of_cell? w _ hx3_1)).trans hx3_1
            replace p3:=eq_true p3
            replace q3:=eq_true q3
            have p4 : 0 ≤ (((rd_T125 l0_0 x4_1).f1) : Int):=of_decide_eq_true (by first | (with_reducible assumption) | assumption)
            have q4 : ((rd_T125 l0_0 x4_1).f1) < (l0_0.length : Int):=of_decide_eq_true (by first | (with_reducible assumption) | assumption)
            obtain ⟨ad4,e4,hx4_0,hx4_1⟩:=at_T125 HR0_0.out ((rd_T125 l0_0 x4_1).f1) p4 q4
            obtain rfl : ad2 = ad4:=(by injection e4)
            replace hx4_0:=(HB.out.cell (World.block_lt_of_cell? w _ hx4_0)).trans hx4_0
            replace hx4_1:=(HB.out.cell (World.block_lt_of_cell? w _ hx4_1)).trans hx4_1
            replace p4:=eq_true p4
            replace q4:=eq_true q4
            go_wp2
            repeat (go_quiet (fail);try go_wp2)
            go_roundg k1
            case measure=>have:=HK1.out;omega
            case rel=>exact ⟨((((x3_1 ++ ((rd_T125 l0_0 x4_1).f0)) ++ (⟨#[32]⟩ : ByteArray)) ++ ((rd_T125 l0_0 ((rd_T125 l0_0 x4_1).f1)).f0)) ++ (⟨#[10]⟩ : ByteArray)),(wrap64 (x4_1 + 1)),(by first | rfl | (simp;done) | (simp [*];done)),(by first | rfl | (simp;done) | (simp [*];done)),H',⟨by have:=HK1.out;omega⟩,⟨by (with_reducible repeat (first | refine blk_drewN ?_ _ | refine blk_drew ?_ | refine blk_alloc ?_ _));exact BK1.out⟩,⟨hbw_⟩⟩
           ·rw [if_neg c11] at H
            exact absurd H (by simp)
          ·rw [if_neg c10] at H
           exact absurd H (by simp)
         ·rw [if_neg c9] at H
          exact absurd H (by simp)
        ·rw [if_neg c8] at H
         exact absurd H (by simp)
       ·rw [if_neg c7] at H
        exact absurd H (by simp)
      ·rw [if_neg c6] at H
       have c6b0 : decide (0 < x4_1) = false:=decide_eq_false c6
       clear c6
       by_cases c13 : (x3_1 ++ ((rd_T125 l0_0 x4_1).f0)).size + 1 ≤ 9223372036854775807
       ·rw [if_pos c13] at H
        have c13b0:=eq_true c13
        have c13b1 : decide ((x3_1 ++ ((rd_T125 l0_0 x4_1).f0)).size + 1 ≤ 9223372036854775807) = true:=decide_eq_true c13
        try have c13b2 : (9223372036854775807 < (x3_1 ++ ((rd_T125 l0_0 x4_1).f0)).size + 1) = False:=eq_false (Nat.not_lt.2 c13)
        try (have c13b3:=c13b2;simp only [ByteArray.size_append,sz1_treeText] at c13b3)
        have H':=a0_ H
        clear H
        have hcz14_0 : wr.cell? ⟨gb1,0,none⟩ = some (.slice A0_0 l0_0.length c0_0):=(blk_cell BK1.out 0).trans rfl
        have hfz14_0:=blk_frozen BK1.out 0
        have p2 : 0 ≤ (x4_1 : Int):=of_decide_eq_true (by first | (with_reducible assumption) | assumption)
        have q2 : x4_1 < (l0_0.length : Int):=of_decide_eq_true (by first | (with_reducible assumption) | assumption)
        obtain ⟨ad2,e2,hx2_0,hx2_1⟩:=at_T125 HR0_0.out x4_1 p2 q2
        cases e2
        replace hx2_0:=(HB.out.cell (World.block_lt_of_cell? w _ hx2_0)).trans hx2_0
        replace hx2_1:=(HB.out.cell (World.block_lt_of_cell? w _ hx2_1)).trans hx2_1
        replace p2:=eq_true p2
        replace q2:=eq_true q2
        go_wp2
        repeat (go_quiet (fail);try go_wp2)
        go_roundg k1
        case measure=>have:=HK1.out;omega
        case rel=>exact ⟨((x3_1 ++ ((rd_T125 l0_0 x4_1).f0)) ++ (⟨#[10]⟩ : ByteArray)),(wrap64 (x4_1 + 1)),(by first | rfl | (simp;done) | (simp [*];done)),(by first | rfl | (simp;done) | (simp [*];done)),H',⟨by have:=HK1.out;omega⟩,⟨by (with_reducible repeat (first | refine blk_drewN ?_ _ | refine blk_drew ?_ | refine blk_alloc ?_ _));exact BK1.out⟩,⟨hbw_⟩⟩
       ·rw [if_neg c13] at H
        exact absurd H (by simp)
     ·rw [if_neg c5] at H
      exact absurd H (by simp)
    ·rw [if_neg c4] at H
     exact absurd H (by simp)
   ·rw [if_neg c3] at H
    have c3b0 : decide (x4_1 < (l0_0.length : Int)) = false:=decide_eq_false c3
    clear c3
    obtain rfl:=Option.some.inj H
    have hcz15_0 : wr.cell? ⟨gb1,0,none⟩ = some (.slice A0_0 l0_0.length c0_0):=(blk_cell BK1.out 0).trans rfl
    have hfz15_0:=blk_frozen BK1.out 0
    go_wp2
    repeat (go_quiet (fail);try go_wp2)
    go_ret
    exact ⟨by first | rfl | (simp [errW_none,errW_some] <;> rfl) | (simp [*,errW_none,errW_some] <;> rfl),hbw_⟩
theorem toB_app (a b : List UInt8) : toB a ++ toB b = toB (a ++ b):=by
 apply ofB_inj
 rw [ofB_toB]
 simp [ofB,toB]
def gTx (t : List Cls) : Prop:=t.length ≤ 8 ∧ (∀ x ∈ t,x.f0.size ≤ 7) ∧ ∀ j,j < t.length → (j = 0 → (t.getD j z125).f1 = -1) ∧ (0 < j → 0 ≤ (t.getD j z125).f1 ∧ (t.getD j z125).f1 < (j : Int))
theorem gTx_at {t : List Cls} (h : gTx t) (j : Nat) (hj : j < t.length) : (t.getD j z125).f0.size ≤ 7:=by
 refine h.2.1 _ ?_
 rw [List.getD_eq_getElem?_getD,List.getElem?_eq_getElem hj]
 exact List.getElem_mem hj
theorem gTx_of {t : List Cls} (h : vT t = true) : gTx t:=by
 refine ⟨(vT_len h).2,fun x hx=>?_,fun j hj=>vT_parent h j hj⟩
 obtain ⟨j,hj,rfl⟩:=List.getElem_of_mem hx
 have:=okName_len (vT_name h j hj).1
 have e : t.getD j z125 = t[j]:=by simp [List.getD,hj]
 rw [e] at this
 omega
theorem gTx_len {t : List Cls} (h : gTx t) : ∀ (j : Nat),j ≤ t.length → (linesL t (t.take j)).length ≤ 16 * j:=by
 intro j
 induction j with
 | zero=>intro _;simp [linesL]
 | succ j ih =>
  intro hj
  have h1:=ih (by omega)
  have h2:=gTx_at h j (by omega)
  have hp:=h.2.2 j (by omega)
  have h3 : (lineL t (t.getD j z125)).length ≤ 16:=by
   unfold lineL
   rw [List.length_append,List.length_append,ofB_len,List.length_singleton]
   split
   case isTrue h0 =>
    have h4:=gTx_at h (t.getD j z125).f1.toNat (by have:=hp.1;omega)
    rw [List.length_cons,ofB_len]
    omega
   case isFalse=>rw [List.length_nil];omega
  rw [← take_snoc j (by omega)]
  unfold linesL at h1 ⊢
  rw [List.flatMap_append,List.flatMap_singleton,List.length_append]
  omega
theorem gTx_size {t : List Cls} (h : gTx t) : (treeTx t).size ≤ 128:=by
 have h1:=gTx_len h t.length (Nat.le_refl _)
 have h2:=h.1
 rw [List.take_of_length_le (Nat.le_refl _)] at h1
 unfold treeTx
 rw [toB_size]
 omega
theorem spec_treeText_gev (t : List Cls) (hg : gTx t) : Ev (fun k=>spec_treeText.f k t) (treeTx t):=by
 have hl8:=hg.1
 have key : ∀ d j,j + d = t.length → Ev (fun k=>spec_treeText.l0 k (toB (linesL t (t.take j))) (j : Int) t) (treeTx t):=by
  intro d
  induction d with
  | zero =>
   intro j hj
   refine Ev.succ ?_
   simp only [spec_treeText.l0]
   rw [List.take_of_length_le (by omega)]
   exact Ev.neg (by omega) (Ev.const rfl)
  | succ d ih =>
   intro j hj
   have hlt : j < t.length:=by omega
   have hr : rd_T125 t (j : Int) = t.getD j z125:=by simp [rd_T125]
   have hn:=gTx_at hg j hlt
   have hp:=hg.2.2 j hlt
   have hll:=gTx_len hg j (by omega)
   have hst : linesL t (t.take (j + 1)) = linesL t (t.take j) ++ lineL t (t.getD j z125):=by
    rw [← take_snoc j hlt]
    unfold linesL
    rw [List.flatMap_append,List.flatMap_singleton]
   have hi:=ih (j + 1) (by omega)
   have hs1 : (toB (linesL t (t.take j))).size = (linesL t (t.take j)).length:=toB_size _
   refine Ev.succ ?_
   simp only [spec_treeText.l0,hr]
   rw [wrap_succ (i:=(j : Int)) (n:=t.length) (by omega) (by omega) (by omega)]
   rw [hst] at hi
   generalize hL : linesL t (t.take j) = L at *
   generalize hy : t.getD j z125 = y at *
   obtain ⟨y0,y1⟩:=y
   simp only at hn hp ⊢
   have s1 : (⟨#[32]⟩ : ByteArray).size = 1:=rfl
   have ey : y0 = toB (ofB y0):=(toB_ofB y0).symm
   have hys:=ofB_len y0
   refine Ev.pos (by omega) (Ev.pos (by omega) (Ev.pos (by omega) ?_))
   by_cases h0 : j = 0
   ·have h1:=hp.1 h0
    refine Ev.neg (by omega) (Ev.pos (by rw [ByteArray.size_append];omega) ?_)
    have e : (toB L ++ y0) ++ (⟨#[10]⟩ : ByteArray) = toB (L ++ lineL t ⟨y0,y1⟩):=by
     unfold lineL
     rw [if_neg (by simp only;omega)]
     conv=>lhs;rw [ey]
     rw [toB_app,show (⟨#[10]⟩ : ByteArray) = toB [10] from rfl,toB_app]
     simp
    rw [e]
    exact hi
   ·have h1:=hp.2 (by omega)
    have hn2:=gTx_at hg y1.toNat (by omega)
    have hr2 : rd_T125 t y1 = t.getD y1.toNat z125:=by simp [rd_T125]
    rw [hr2]
    refine Ev.pos (by omega) (Ev.pos (by rw [ByteArray.size_append];omega) (Ev.pos (by omega) (Ev.pos (by omega) (Ev.pos (by rw [ByteArray.size_append,ByteArray.size_append];omega) (Ev.pos (by rw [ByteArray.size_append,ByteArray.size_append,ByteArray.size_append];omega) ?_)))))
    have e : (((toB L ++ y0) ++ (⟨#[32]⟩ : ByteArray)) ++ (t.getD y1.toNat z125).f0) ++ (⟨#[10]⟩ : ByteArray) = toB (L ++ lineL t ⟨y0,y1⟩):=by
     unfold lineL
     rw [if_pos (by simp only;omega)]
     generalize (t.getD y1.toNat z125).f0 = p0
     have ep : p0 = toB (ofB p0):=(toB_ofB p0).symm
     conv=>lhs;rw [ey,ep]
     rw [toB_app,show (⟨#[32]⟩ : ByteArray) = toB [32] from rfl,toB_app,toB_app,show (⟨#[10]⟩ : ByteArray) = toB [10] from rfl,toB_app]
     simp
    rw [e]
    exact hi
 have:=key t.length 0 (by omega)
 unfold spec_treeText.f
 have e0 : (⟨#[]⟩ : ByteArray) = toB (linesL t (t.take 0)):=rfl
 rw [e0]
 exact this
theorem spec_treeText_ev (t : List Cls) (hv : vT t = true) : Ev (fun k=>spec_treeText.f k t) (treeTx t):=spec_treeText_gev t (gTx_of hv)
end Go.Proofs.Ytacgehaipacehaa.P
namespace Go.Proofs.Ytacgehaipacehaa.P
open Go.RowKit Go.Proofs.YtacgehaipacehaaW.PrintWords Go.Proofs.YtacgehaipacehaaW.PrintLast Go.Proofs.YtacgehaipacehaaW.PrintMore
attribute [local go_sem] max2_int min2_int max_two min_two max_three min_three max_four min_four
set_option linter.unusedVariables false
set_option linter.unusedSimpArgs false
def spec_TreeText.f (k : Nat) (l0_0 : List (S125)) : Option (ByteArray):=(spec_validTree.f l0_0).bind fun t2=>(if t2 = true then ((spec_treeText.f k l0_0).bind fun t3=>(some t3)) else (some (⟨#[]⟩ : ByteArray)))
theorem spec_TreeText.mono : ∀ a0 k,LeO (spec_TreeText.f k a0) (spec_TreeText.f (k + 1) a0):=by
 intro a0 k
 unfold spec_TreeText.f
 repeat' first
   | (with_reducible exact spec_treeText.mono _ _)
   | (with_reducible exact LeO.refl _)
   | (with_reducible exact LeO.none _)
   | (with_reducible refine LeO.ite ?_ ?_)
   | (with_reducible refine LeO.bind ?_ (fun _=>?_))
   | exact spec_treeText.mono _ _
   | exact LeO.none _
   | refine LeO.ite ?_ ?_
   | refine LeO.bind ?_ (fun _=>?_)
set_option maxHeartbeats 8000000 in
set_option maxRecDepth 100000 in
theorem spec_TreeText.calls (k : Nat) (A0_0 : Option Addr) (c0_0 : Nat) (l0_0 : List (S125)) (r : ByteArray) (w : World) (hr0_0 : Kd.C k125 w A0_0 l0_0.length l0_0) (hc0_0 : l0_0.length ≤ c0_0) (h : spec_TreeText.f k l0_0 = some r) :
  Calls Try.prog 50 #[.agg #[.slice A0_0 l0_0.length c0_0]] w fun e w'=>e = .returned (.string r) ∧ Below w.heap.size w w':=by
 have hu25:=Try.underlying25
 have HR0_0:=a0_ hr0_0
 have HC0_0:=a0_ hc0_0
 clear hr0_0 hc0_0
 have HB:=a0_ (Below.refl w.heap.size w)
 have H : ((spec_validTree.f l0_0).bind fun t2=>(if t2 = true then ((spec_treeText.f k l0_0).bind fun t3=>(some t3)) else (some (⟨#[]⟩ : ByteArray)))) = some r:=h
 clear h
 replace H:=Option.bind_eq_some_iff.mp H
 obtain ⟨t2,A20,H⟩:=H
 try dsimp only at H
 have A2:=a0_ A20
 clear A20
 by_cases c3 : t2 = true
 ·subst c3
  have H1 : ((spec_treeText.f k l0_0).bind fun t3=>(some t3)) = some r:=by rw [if_pos rfl] at H;exact H
  clear H
  have H:=H1
  clear H1
  replace H:=Option.bind_eq_some_iff.mp H
  obtain ⟨t3,A40,H⟩:=H
  replace H : (some t3) = some r:=H
  have A4:=a0_ A40
  clear A40
  obtain rfl:=Option.some.inj H
  go_enter Try.func50,Try.ntmps50
  go_wp2_with (first | ((with_reducible refine gate_dst (N:=1) rfl ?_);refine box_event ?hg (N:=1) ?hd (cs:=#[.slice A0_0 l0_0.length c0_0]) (t:=25) ?hr ?_;(case hd=>rfl);(case hg=>rfl);(case hr=>first | (go_simp;done) | (go_simp;rfl));intro gb1 hg w5 hbox hb;have BK1:=a0_ (hbox);have GW1:=a0_ ((by rw [hg];exact (below_size hbw_) : w.heap.size ≤ gb1));have GE1:=a0_ ((by rw [hg];exact (below_size hbw_) : w.heap.size ≤ gb1));replace HB:=a0_ (below_step hbw_ hb);clear hb hbox hg;have hcz6_0 : w5.cell? ⟨gb1,0,none⟩ = some (.slice A0_0 l0_0.length c0_0):=(blk_cell BK1.out 0).trans rfl;have hfz6_0:=blk_frozen BK1.out 0) | ((with_reducible refine gate_callee (f:=107) rfl ?_);refine goesL_ (some 4) rfl rfl Try.func107 (by kernel_rfl) rfl #[.agg #[.slice A0_0 l0_0.length c0_0]] rfl lm_ ?_;(with_reducible refine (spec_validTree.calls _ _ l0_0 true _ ?side1 ?side2 A2.out).mono ?_);(case side1=>exact cc_ (Kd.C_below HR0_0.out HB.out));(case side2=>exact HC0_0.out);rintro e w7 ⟨rfl,hb⟩;refine ⟨_,rfl,?_⟩;replace BK1:=kb_ BK1 hb;replace HB:=a0_ (below_step hbw_ hb);(try clear hb);have hcz8_0 : w7.cell? ⟨gb1,0,none⟩ = some (.slice A0_0 l0_0.length c0_0):=(blk_cell BK1.out 0).trans rfl;have hfz8_0:=blk_frozen BK1.out 0) | ((with_reducible refine gate_callee (f:=108) rfl ?_);refine goesL_ (some 7) rfl rfl Try.func108 (by kernel_rfl) rfl #[.agg #[.slice A0_0 l0_0.length c0_0]] rfl lm_ ?_;(with_reducible refine (spec_treeText.calls k _ _ l0_0 t3 _ ?side1 ?side2 A4.out).mono ?_);(case side1=>exact cc_ (Kd.C_below HR0_0.out HB.out));(case side2=>exact HC0_0.out);rintro e w9 ⟨rfl,hb⟩;refine ⟨_,rfl,?_⟩;replace BK1:=kb_ BK1 hb;replace HB:=a0_ (below_step hbw_ hb);(try clear hb);(try clear hb2);(try clear hk);(try clear hi)))
  go_ret
  exact ⟨by first | rfl | (simp [errW_none,errW_some] <;> rfl) | (simp [*,errW_none,errW_some] <;> rfl),hbw_⟩
 ·replace c3:=Bool.eq_false_iff.mpr c3
  subst c3
  have H1 : (some (⟨#[]⟩ : ByteArray)) = some r:=by rw [if_neg (show ¬ (false = true) by decide)] at H;exact H
  clear H
  have H:=H1
  clear H1
  obtain rfl:=Option.some.inj H
  go_enter Try.func50,Try.ntmps50
  go_wp2_with (first | ((with_reducible refine gate_dst (N:=1) rfl ?_);refine box_event ?hg (N:=1) ?hd (cs:=#[.slice A0_0 l0_0.length c0_0]) (t:=25) ?hr ?_;(case hd=>rfl);(case hg=>rfl);(case hr=>first | (go_simp;done) | (go_simp;rfl));intro gb1 hg w10 hbox hb;have BK1:=a0_ (hbox);have GW1:=a0_ ((by rw [hg];exact (below_size hbw_) : w.heap.size ≤ gb1));have GE1:=a0_ ((by rw [hg];exact (below_size hbw_) : w.heap.size ≤ gb1));replace HB:=a0_ (below_step hbw_ hb);clear hb hbox hg;have hcz11_0 : w10.cell? ⟨gb1,0,none⟩ = some (.slice A0_0 l0_0.length c0_0):=(blk_cell BK1.out 0).trans rfl;have hfz11_0:=blk_frozen BK1.out 0) | ((with_reducible refine gate_callee (f:=107) rfl ?_);refine goesL_ (some 4) rfl rfl Try.func107 (by kernel_rfl) rfl #[.agg #[.slice A0_0 l0_0.length c0_0]] rfl lm_ ?_;(with_reducible refine (spec_validTree.calls _ _ l0_0 false _ ?side1 ?side2 A2.out).mono ?_);(case side1=>exact cc_ (Kd.C_below HR0_0.out HB.out));(case side2=>exact HC0_0.out);rintro e w12 ⟨rfl,hb⟩;refine ⟨_,rfl,?_⟩;replace BK1:=kb_ BK1 hb;replace HB:=a0_ (below_step hbw_ hb);(try clear hb);(try clear hb2);(try clear hk);(try clear hi)))
  go_ret
  exact ⟨by first | rfl | (simp [errW_none,errW_some] <;> rfl) | (simp [*,errW_none,errW_some] <;> rfl),hbw_⟩
theorem spec_TreeText_ev (t : List Cls) (hs : smT t = true) : Ev (fun k=>spec_TreeText.f k t) (textP t):=by
 have h1 : spec_validTree.f t = some (vT t):=by rw [spec_validTree.f,if_pos hs]
 unfold textP
 refine Ev.bind (Ev.const h1) ?_
 cases hv : vT t with
 | true=>exact Ev.pos rfl (Ev.bind (spec_treeText_ev t hv) (Ev.const rfl))
 | false=>exact Ev.neg (by simp) (Ev.const rfl)
end Go.Proofs.Ytacgehaipacehaa.P
namespace Go.Proofs.Ytacgehaipacehaa.P
open Go.RowKit Go.Proofs.YtacgehaipacehaaW.PrintWords Go.Proofs.YtacgehaipacehaaW.PrintLast Go.Proofs.YtacgehaipacehaaW.PrintMore
attribute [local go_sem] max2_int min2_int max_two min_two max_three min_three max_four min_four
set_option linter.unusedVariables false
set_option linter.unusedSimpArgs false
theorem eqA125 (d : Nat) (w : World) (x0 y0 : ByteArray) (x1 y1 : Int) :
  (Op.equalIn (d + 2) 125 (.agg #[.string x0,.int .i64 x1]) (.agg #[.string y0,.int .i64 y1])).run Try.prog w = .ok (x0.toList == y0.toList && (x1 == y1)) w:=by
 refine eqA_of Try.underlying125 (by kernel_rfl) ?_
 refine eqf_cons (by rfl) (by go_simp;rfl) (by go_simp;rfl) (by go_simp) ?_
 exact eqf_last (by rfl) (by go_simp;rfl) (by go_simp;rfl) (by go_simp)
end Go.Proofs.Ytacgehaipacehaa.P
namespace Go.Proofs.Ytacgehaipacehaa.P
open Go.RowKit Go.Proofs.YtacgehaipacehaaW.PrintWords Go.Proofs.YtacgehaipacehaaW.PrintLast Go.Proofs.YtacgehaipacehaaW.PrintMore
attribute [local go_sem] max2_int min2_int max_two min_two max_three min_three max_four min_four
set_option linter.unusedVariables false
set_option linter.unusedSimpArgs false
attribute [local go_sem high] eqA125
def laws_equalTree.l0 : Nat → Int → List (S125) → List (S125) → Option (Bool)
 | 0,_,_,_=>none
 | k + 1,x5,x2000,x3000=>if x5 < (x2000.length : Int) then (if 0 ≤ x5 then (if x5 < (x3000.length : Int) then (if (!((((rd_T125 x2000 x5).f0).toList) == (((rd_T125 x3000 x5).f0).toList)) || (!(((rd_T125 x2000 x5).f1) == ((rd_T125 x3000 x5).f1)))) = true then (some false) else (laws_equalTree.l0 k (wrap64 (x5 + 1)) x2000 x3000)) else (none)) else (none)) else (some true)
def laws_equalTree.f (k : Nat) (l0_0 : List (S125)) (l1_0 : List (S125)) : Option (Bool):=if (l0_0.length : Int) = (l1_0.length : Int) then (laws_equalTree.l0 k 0 l0_0 l1_0) else (some false)
theorem laws_equalTree.mono_l : ∀ k,(∀ y0 y1 y2,LeO (laws_equalTree.l0 k y0 y1 y2) (laws_equalTree.l0 (k + 1) y0 y1 y2))
 | 0=>fun _ _ _ r h=>by simp [laws_equalTree.l0] at h
 | k + 1=>by
  have ih0:=laws_equalTree.mono_l k
  ·intro y0 y1 y2
   unfold laws_equalTree.l0
   repeat' first
   | (with_reducible exact ih0 _ _ _)
   | (with_reducible exact LeO.refl _)
   | (with_reducible exact LeO.none _)
   | (with_reducible refine LeO.ite ?_ ?_)
   | (with_reducible refine LeO.bind ?_ (fun _=>?_))
   | exact ih0 _ _ _
   | exact LeO.none _
   | refine LeO.ite ?_ ?_
   | refine LeO.bind ?_ (fun _=>?_)
theorem laws_equalTree.mono : ∀ a0 a1 k,LeO (laws_equalTree.f k a0 a1) (laws_equalTree.f (k + 1) a0 a1):=by
 intro a0 a1 k
 have ih0:=laws_equalTree.mono_l k
 unfold laws_equalTree.f
 repeat' first
   | (with_reducible exact ih0 _ _ _)
   | (with_reducible exact LeO.refl _)
   | (with_reducible exact LeO.none _)
   | (with_reducible refine LeO.ite ?_ ?_)
   | (with_reducible refine LeO.bind ?_ (fun _=>?_))
   | exact ih0 _ _ _
   | exact LeO.none _
   | refine LeO.ite ?_ ?_
   | refine LeO.bind ?_ (fun _=>?_)
set_option maxHeartbeats 8000000 in
set_option maxRecDepth 100000 in
theorem laws_equalTree.calls (k : Nat) (A0_0 : Option Addr) (c0_0 : Nat) (l0_0 : List (S125)) (A1_0 : Option Addr) (c1_0 : Nat) (l1_0 : List (S125)) (r : Bool) (w : World) (hr0_0 : Kd.C k125 w A0_0 l0_0.length l0_0) (hc0_0 : l0_0.length ≤ c0_0) (hr1_0 : Kd.C k125 w A1_0 l1_0.length l1_0) (hc1_0 : l1_0.length ≤ c1_0) (h : laws_equalTree.f k l0_0 l1_0 = some r) :
  Calls Try.prog 51 #[.agg #[.slice A0_0 l0_0.length c0_0],.agg #[.slice A1_0 l1_0.length c1_0]] w fun e w'=>e = .returned (.bool r) ∧ Below w.heap.size w w':=by
 have hu25:=Try.underlying25
 have hu125:=Try.underlying125
 have HR0_0:=a0_ hr0_0
 have HC0_0:=a0_ hc0_0
 clear hr0_0 hc0_0
 have HR1_0:=a0_ hr1_0
 have HC1_0:=a0_ hc1_0
 clear hr1_0 hc1_0
 have HB:=a0_ (Below.refl w.heap.size w)
 have H : (if (l0_0.length : Int) = (l1_0.length : Int) then (laws_equalTree.l0 k 0 l0_0 l1_0) else (some false)) = some r:=h
 clear h
 by_cases c3 : (l0_0.length : Int) = (l1_0.length : Int)
 ·rw [if_pos c3] at H
  have c3b0 : ((l0_0.length : Int) == (l1_0.length : Int)) = true:=beq_iff_eq.mpr c3
  have c3b1 : ((l0_0.length : Int) != (l1_0.length : Int)) = false:=bne_eq_false_iff_eq.mpr c3
  have c3b2 : (l0_0.length == l1_0.length) = true:=by first | simpa using c3 | (simp at c3 ⊢;omega)
  clear c3
  have H':=a0_ H
  clear H
  go_enter Try.func51,Try.ntmps51
  go_wp2_with (first | ((with_reducible refine gate_dst (N:=2) rfl ?_);refine box_event ?hg (N:=2) ?hd (cs:=#[.slice A0_0 l0_0.length c0_0]) (t:=25) ?hr ?_;(case hd=>rfl);(case hg=>rfl);(case hr=>first | (go_simp;done) | (go_simp;rfl));intro gb1 hg w4 hbox hb;have BK1:=a0_ (hbox);have GW1:=a0_ ((by rw [hg];exact (below_size hbw_) : w.heap.size ≤ gb1));have GE1:=a0_ ((by rw [hg];exact (below_size hbw_) : w.heap.size ≤ gb1));replace HB:=a0_ (below_step hbw_ hb);clear hb hbox hg) | ((with_reducible refine gate_dst (N:=3) rfl ?_);refine box_event ?hg (N:=3) ?hd (cs:=#[.slice A1_0 l1_0.length c1_0]) (t:=25) ?hr ?_;(case hd=>rfl);(case hg=>rfl);(case hr=>first | (go_simp;done) | (go_simp;rfl));intro gb2 hg w5 hbox hb;have n0_:=kb_ BK1 hb;have n1_:=a0_ (below_step hbw_ hb);have n2_:=a0_ (hbox);have n3_:=a0_ ((by rw [hg];exact (below_size hbw_) : w.heap.size ≤ gb2));have n4_:=a0_ ((by rw [hg];exact (below_size hbw_) : w.heap.size ≤ gb2));have n5_:=a0_ ((by rw [hg];exact Nat.ne_of_lt (blk_lt (bb_ BK1.out)) : gb1 ≠ gb2));have n6_:=a0_ ((by rw [hg];exact Nat.ne_of_gt (blk_lt (bb_ BK1.out)) : gb2 ≠ gb1));clear BK1 HB;have BK1:=n0_;have HB:=n1_;have BK2:=n2_;have GW2:=n3_;have GE2:=n4_;have NB1_2:=n5_;have NB2_1:=n6_;clear n0_ n1_ n2_ n3_ n4_ n5_ n6_;clear hb hbox hg;have hnb6:=NB1_2.out;have hnc6:=NB2_1.out;have hcz7_0 : w5.cell? ⟨gb1,0,none⟩ = some (.slice A0_0 l0_0.length c0_0):=(blk_cell BK1.out 0).trans rfl;have hfz7_0:=blk_frozen BK1.out 0;have hcz8_0 : w5.cell? ⟨gb2,0,none⟩ = some (.slice A1_0 l1_0.length c1_0):=(blk_cell BK2.out 0).trans rfl;have hfz8_0:=blk_frozen BK2.out 0))
  repeat (go_quiet (first | ((with_reducible refine gate_dst (N:=2) rfl ?_);refine box_event ?hg (N:=2) ?hd (cs:=#[.slice A0_0 l0_0.length c0_0]) (t:=25) ?hr ?_;(case hd=>rfl);(case hg=>rfl);(case hr=>first | (go_simp;done) | (go_simp;rfl));intro gb1 hg w4 hbox hb;have BK1:=a0_ (hbox);have GW1:=a0_ ((by rw [hg];exact (below_size hbw_) : w.heap.size ≤ gb1));have GE1:=a0_ ((by rw [hg];exact (below_size hbw_) : w.heap.size ≤ gb1));replace HB:=a0_ (below_step hbw_ hb);clear hb hbox hg) | ((with_reducible refine gate_dst (N:=3) rfl ?_);refine box_event ?hg (N:=3) ?hd (cs:=#[.slice A1_0 l1_0.length c1_0]) (t:=25) ?hr ?_;(case hd=>rfl);(case hg=>rfl);(case hr=>first | (go_simp;done) | (go_simp;rfl));intro gb2 hg w5 hbox hb;have n0_:=kb_ BK1 hb;have n1_:=a0_ (below_step hbw_ hb);have n2_:=a0_ (hbox);have n3_:=a0_ ((by rw [hg];exact (below_size hbw_) : w.heap.size ≤ gb2));have n4_:=a0_ ((by rw [hg];exact (below_size hbw_) : w.heap.size ≤ gb2));have n5_:=a0_ ((by rw [hg];exact Nat.ne_of_lt (blk_lt (bb_ BK1.out)) : gb1 ≠ gb2));have n6_:=a0_ ((by rw [hg];exact Nat.ne_of_gt (blk_lt (bb_ BK1.out)) : gb2 ≠ gb1));clear BK1 HB;have BK1:=n0_;have HB:=n1_;have BK2:=n2_;have GW2:=n3_;have GE2:=n4_;have NB1_2:=n5_;have NB2_1:=n6_;clear n0_ n1_ n2_ n3_ n4_ n5_ n6_;clear hb hbox hg;have hnb6:=NB1_2.out;have hnc6:=NB2_1.out;have hcz7_0 : w5.cell? ⟨gb1,0,none⟩ = some (.slice A0_0 l0_0.length c0_0):=(blk_cell BK1.out 0).trans rfl;have hfz7_0:=blk_frozen BK1.out 0;have hcz8_0 : w5.cell? ⟨gb2,0,none⟩ = some (.slice A1_0 l1_0.length c1_0):=(blk_cell BK2.out 0).trans rfl;have hfz8_0:=blk_frozen BK2.out 0));try go_wp2_with (first | ((with_reducible refine gate_dst (N:=2) rfl ?_);refine box_event ?hg (N:=2) ?hd (cs:=#[.slice A0_0 l0_0.length c0_0]) (t:=25) ?hr ?_;(case hd=>rfl);(case hg=>rfl);(case hr=>first | (go_simp;done) | (go_simp;rfl));intro gb1 hg w4 hbox hb;have BK1:=a0_ (hbox);have GW1:=a0_ ((by rw [hg];exact (below_size hbw_) : w.heap.size ≤ gb1));have GE1:=a0_ ((by rw [hg];exact (below_size hbw_) : w.heap.size ≤ gb1));replace HB:=a0_ (below_step hbw_ hb);clear hb hbox hg) | ((with_reducible refine gate_dst (N:=3) rfl ?_);refine box_event ?hg (N:=3) ?hd (cs:=#[.slice A1_0 l1_0.length c1_0]) (t:=25) ?hr ?_;(case hd=>rfl);(case hg=>rfl);(case hr=>first | (go_simp;done) | (go_simp;rfl));intro gb2 hg w5 hbox hb;have n0_:=kb_ BK1 hb;have n1_:=a0_ (below_step hbw_ hb);have n2_:=a0_ (hbox);have n3_:=a0_ ((by rw [hg];exact (below_size hbw_) : w.heap.size ≤ gb2));have n4_:=a0_ ((by rw [hg];exact (below_size hbw_) : w.heap.size ≤ gb2));have n5_:=a0_ ((by rw [hg];exact Nat.ne_of_lt (blk_lt (bb_ BK1.out)) : gb1 ≠ gb2));have n6_:=a0_ ((by rw [hg];exact Nat.ne_of_gt (blk_lt (bb_ BK1.out)) : gb2 ≠ gb1));clear BK1 HB;have BK1:=n0_;have HB:=n1_;have BK2:=n2_;have GW2:=n3_;have GE2:=n4_;have NB1_2:=n5_;have NB2_1:=n6_;clear n0_ n1_ n2_ n3_ n4_ n5_ n6_;clear hb hbox hg;have hnb6:=NB1_2.out;have hnc6:=NB2_1.out;have hcz7_0 : w5.cell? ⟨gb1,0,none⟩ = some (.slice A0_0 l0_0.length c0_0):=(blk_cell BK1.out 0).trans rfl;have hfz7_0:=blk_frozen BK1.out 0;have hcz8_0 : w5.cell? ⟨gb2,0,none⟩ = some (.slice A1_0 l1_0.length c1_0):=(blk_cell BK2.out 0).trans rfl;have hfz8_0:=blk_frozen BK2.out 0)))
  go_loopg [5] k (fun kq v5 w'=>∃ (x5_1 : Int),v5 = .int .i64 x5_1 ∧ Aside0 (laws_equalTree.l0 kq x5_1 l0_0 l1_0 = some r) ∧ Aside0 (kq ≤ k) ∧ Aside0 (w'.heap[gb1]? = some (.cells #[(.slice A0_0 l0_0.length c0_0)] 25 (0,0))) ∧ Aside0 (w'.heap[gb2]? = some (.cells #[(.slice A1_0 l1_0.length c1_0)] 25 (0,0))) ∧ Aside0 (Below w.heap.size w w'))
  case atStart=>exact ⟨(0),(by first | rfl | (simp;done) | (simp [*];done)),H',⟨Nat.le_refl _⟩,⟨by (with_reducible repeat (first | refine blk_drewN ?_ _ | refine blk_drew ?_ | refine blk_alloc ?_ _));exact BK1.out⟩,⟨by (with_reducible repeat (first | refine blk_drewN ?_ _ | refine blk_drew ?_ | refine blk_alloc ?_ _));exact BK2.out⟩,⟨hbw_⟩⟩
  case round =>
   clear H'
   try clear c1
   try clear p2
   try clear c3
   try clear c3b0
   try clear c3b1
   try clear c3b2
   try clear c5
   try clear c6
   try clear hcz7_0
   try clear hcz8_0
   try clear hfz7_0
   try clear hfz8_0
   obtain ⟨x5_1,rfl,HA,HK1,BK1,BK2,HB⟩:=hrel
   cases gk with
   | zero=>exact absurd HA.out (by simp [laws_equalTree.l0])
   | succ k1 =>
    have H:=HA.out
    clear HA
    simp only [laws_equalTree.l0] at H
    by_cases c9 : x5_1 < (l0_0.length : Int)
    ·rw [if_pos c9] at H
     have c9b0 : decide (x5_1 < (l0_0.length : Int)) = true:=decide_eq_true c9
     clear c9
     by_cases c10 : 0 ≤ x5_1
     ·rw [if_pos c10] at H
      have c10b0 : decide (0 ≤ x5_1) = true:=decide_eq_true c10
      clear c10
      by_cases c11 : x5_1 < (l1_0.length : Int)
      ·rw [if_pos c11] at H
       have c11b0 : decide (x5_1 < (l1_0.length : Int)) = true:=decide_eq_true c11
       clear c11
       by_cases c12 : (!((((rd_T125 l0_0 x5_1).f0).toList) == (((rd_T125 l1_0 x5_1).f0).toList)) || (!(((rd_T125 l0_0 x5_1).f1) == ((rd_T125 l1_0 x5_1).f1)))) = true
       ·rw [if_pos c12] at H
        have c12b0 : (!((((rd_T125 l0_0 x5_1).f0).toList) == (((rd_T125 l1_0 x5_1).f0).toList)) || (!(((rd_T125 l0_0 x5_1).f1) == ((rd_T125 l1_0 x5_1).f1)))) = true:=c12
        clear c12
        obtain rfl:=Option.some.inj H
        have hnb13:=NB1_2.out
        have hnc13:=NB2_1.out
        have hcz14_0 : wr.cell? ⟨gb1,0,none⟩ = some (.slice A0_0 l0_0.length c0_0):=(blk_cell BK1.out 0).trans rfl
        have hfz14_0:=blk_frozen BK1.out 0
        have p3 : 0 ≤ (x5_1 : Int):=of_decide_eq_true (by first | (with_reducible assumption) | assumption)
        have q3 : x5_1 < (l0_0.length : Int):=of_decide_eq_true (by first | (with_reducible assumption) | assumption)
        obtain ⟨ad3,e3,hx3_0,hx3_1⟩:=at_T125 HR0_0.out x5_1 p3 q3
        cases e3
        replace hx3_0:=(HB.out.cell (World.block_lt_of_cell? w _ hx3_0)).trans hx3_0
        replace hx3_1:=(HB.out.cell (World.block_lt_of_cell? w _ hx3_1)).trans hx3_1
        replace p3:=eq_true p3
        replace q3:=eq_true q3
        have hcz15_0 : wr.cell? ⟨gb2,0,none⟩ = some (.slice A1_0 l1_0.length c1_0):=(blk_cell BK2.out 0).trans rfl
        have hfz15_0:=blk_frozen BK2.out 0
        have p4 : 0 ≤ (x5_1 : Int):=of_decide_eq_true (by first | (with_reducible assumption) | assumption)
        have q4 : x5_1 < (l1_0.length : Int):=of_decide_eq_true (by first | (with_reducible assumption) | assumption)
        obtain ⟨ad4,e4,hx4_0,hx4_1⟩:=at_T125 HR1_0.out x5_1 p4 q4
        cases e4
        replace hx4_0:=(HB.out.cell (World.block_lt_of_cell? w _ hx4_0)).trans hx4_0
        replace hx4_1:=(HB.out.cell (World.block_lt_of_cell? w _ hx4_1)).trans hx4_1
        replace p4:=eq_true p4
        replace q4:=eq_true q4
        go_wp2
        repeat (go_quiet (fail);try go_wp2)
        go_ret
        exact ⟨by first | rfl | (simp [errW_none,errW_some] <;> rfl) | (simp [*,errW_none,errW_some] <;> rfl),hbw_⟩
       ·rw [if_neg c12] at H
        have c12b0 : (!((((rd_T125 l0_0 x5_1).f0).toList) == (((rd_T125 l1_0 x5_1).f0).toList)) || (!(((rd_T125 l0_0 x5_1).f1) == ((rd_T125 l1_0 x5_1).f1)))) = false:=by simpa using c12
        clear c12
        have H':=a0_ H
        clear H
        have hnb16:=NB1_2.out
        have hnc16:=NB2_1.out
        have hcz17_0 : wr.cell? ⟨gb1,0,none⟩ = some (.slice A0_0 l0_0.length c0_0):=(blk_cell BK1.out 0).trans rfl
        have hfz17_0:=blk_frozen BK1.out 0
        have p3 : 0 ≤ (x5_1 : Int):=of_decide_eq_true (by first | (with_reducible assumption) | assumption)
        have q3 : x5_1 < (l0_0.length : Int):=of_decide_eq_true (by first | (with_reducible assumption) | assumption)
        obtain ⟨ad3,e3,hx3_0,hx3_1⟩:=at_T125 HR0_0.out x5_1 p3 q3
        cases e3
        replace hx3_0:=(HB.out.cell (World.block_lt_of_cell? w _ hx3_0)).trans hx3_0
        replace hx3_1:=(HB.out.cell (World.block_lt_of_cell? w _ hx3_1)).trans hx3_1
        replace p3:=eq_true p3
        replace q3:=eq_true q3
        have hcz18_0 : wr.cell? ⟨gb2,0,none⟩ = some (.slice A1_0 l1_0.length c1_0):=(blk_cell BK2.out 0).trans rfl
        have hfz18_0:=blk_frozen BK2.out 0
        have p4 : 0 ≤ (x5_1 : Int):=of_decide_eq_true (by first | (with_reducible assumption) | assumption)
        have q4 : x5_1 < (l1_0.length : Int):=of_decide_eq_true (by first | (with_reducible assumption) | assumption)
        obtain ⟨ad4,e4,hx4_0,hx4_1⟩:=at_T125 HR1_0.out x5_1 p4 q4
        cases e4
        replace hx4_0:=(HB.out.cell (World.block_lt_of_cell? w _ hx4_0)).trans hx4_0
        replace hx4_1:=(HB.out.cell (World.block_lt_of_cell? w _ hx4_1)).trans hx4_1
        replace p4:=eq_true p4
        replace q4:=eq_true q4
        go_wp2
        repeat (go_quiet (fail);try go_wp2)
        go_roundg k1
        case measure=>have:=HK1.out;omega
        case rel=>exact ⟨(wrap64 (x5_1 + 1)),(by first | rfl | (simp;done) | (simp [*];done)),H',⟨by have:=HK1.out;omega⟩,⟨by (with_reducible repeat (first | refine blk_drewN ?_ _ | refine blk_drew ?_ | refine blk_alloc ?_ _));exact BK1.out⟩,⟨by (with_reducible repeat (first | refine blk_drewN ?_ _ | refine blk_drew ?_ | refine blk_alloc ?_ _));exact BK2.out⟩,⟨hbw_⟩⟩
      ·rw [if_neg c11] at H
       exact absurd H (by simp)
     ·rw [if_neg c10] at H
      exact absurd H (by simp)
    ·rw [if_neg c9] at H
     have c9b0 : decide (x5_1 < (l0_0.length : Int)) = false:=decide_eq_false c9
     clear c9
     obtain rfl:=Option.some.inj H
     have hnb19:=NB1_2.out
     have hnc19:=NB2_1.out
     have hcz20_0 : wr.cell? ⟨gb1,0,none⟩ = some (.slice A0_0 l0_0.length c0_0):=(blk_cell BK1.out 0).trans rfl
     have hfz20_0:=blk_frozen BK1.out 0
     go_wp2
     repeat (go_quiet (fail);try go_wp2)
     go_ret
     exact ⟨by first | rfl | (simp [errW_none,errW_some] <;> rfl) | (simp [*,errW_none,errW_some] <;> rfl),hbw_⟩
 ·rw [if_neg c3] at H
  have c3b0 : ((l0_0.length : Int) == (l1_0.length : Int)) = false:=beq_eq_false_iff_ne.mpr c3
  have c3b1 : ((l0_0.length : Int) != (l1_0.length : Int)) = true:=bne_iff_ne.mpr c3
  have c3b2 : (l0_0.length == l1_0.length) = false:=by first | simpa using c3 | (simp at c3 ⊢;omega)
  obtain rfl:=Option.some.inj H
  go_enter Try.func51,Try.ntmps51
  go_wp2_with (first | ((with_reducible refine gate_dst (N:=2) rfl ?_);refine box_event ?hg (N:=2) ?hd (cs:=#[.slice A0_0 l0_0.length c0_0]) (t:=25) ?hr ?_;(case hd=>rfl);(case hg=>rfl);(case hr=>first | (go_simp;done) | (go_simp;rfl));intro gb1 hg w21 hbox hb;have BK1:=a0_ (hbox);have GW1:=a0_ ((by rw [hg];exact (below_size hbw_) : w.heap.size ≤ gb1));have GE1:=a0_ ((by rw [hg];exact (below_size hbw_) : w.heap.size ≤ gb1));replace HB:=a0_ (below_step hbw_ hb);clear hb hbox hg) | ((with_reducible refine gate_dst (N:=3) rfl ?_);refine box_event ?hg (N:=3) ?hd (cs:=#[.slice A1_0 l1_0.length c1_0]) (t:=25) ?hr ?_;(case hd=>rfl);(case hg=>rfl);(case hr=>first | (go_simp;done) | (go_simp;rfl));intro gb2 hg w22 hbox hb;have n0_:=kb_ BK1 hb;have n1_:=a0_ (below_step hbw_ hb);have n2_:=a0_ (hbox);have n3_:=a0_ ((by rw [hg];exact (below_size hbw_) : w.heap.size ≤ gb2));have n4_:=a0_ ((by rw [hg];exact (below_size hbw_) : w.heap.size ≤ gb2));have n5_:=a0_ ((by rw [hg];exact Nat.ne_of_lt (blk_lt (bb_ BK1.out)) : gb1 ≠ gb2));have n6_:=a0_ ((by rw [hg];exact Nat.ne_of_gt (blk_lt (bb_ BK1.out)) : gb2 ≠ gb1));clear BK1 HB;have BK1:=n0_;have HB:=n1_;have BK2:=n2_;have GW2:=n3_;have GE2:=n4_;have NB1_2:=n5_;have NB2_1:=n6_;clear n0_ n1_ n2_ n3_ n4_ n5_ n6_;clear hb hbox hg;have hnb23:=NB1_2.out;have hnc23:=NB2_1.out;have hcz24_0 : w22.cell? ⟨gb1,0,none⟩ = some (.slice A0_0 l0_0.length c0_0):=(blk_cell BK1.out 0).trans rfl;have hfz24_0:=blk_frozen BK1.out 0;have hcz25_0 : w22.cell? ⟨gb2,0,none⟩ = some (.slice A1_0 l1_0.length c1_0):=(blk_cell BK2.out 0).trans rfl;have hfz25_0:=blk_frozen BK2.out 0))
  repeat (go_quiet (first | ((with_reducible refine gate_dst (N:=2) rfl ?_);refine box_event ?hg (N:=2) ?hd (cs:=#[.slice A0_0 l0_0.length c0_0]) (t:=25) ?hr ?_;(case hd=>rfl);(case hg=>rfl);(case hr=>first | (go_simp;done) | (go_simp;rfl));intro gb1 hg w21 hbox hb;have BK1:=a0_ (hbox);have GW1:=a0_ ((by rw [hg];exact (below_size hbw_) : w.heap.size ≤ gb1));have GE1:=a0_ ((by rw [hg];exact (below_size hbw_) : w.heap.size ≤ gb1));replace HB:=a0_ (below_step hbw_ hb);clear hb hbox hg) | ((with_reducible refine gate_dst (N:=3) rfl ?_);refine box_event ?hg (N:=3) ?hd (cs:=#[.slice A1_0 l1_0.length c1_0]) (t:=25) ?hr ?_;(case hd=>rfl);(case hg=>rfl);(case hr=>first | (go_simp;done) | (go_simp;rfl));intro gb2 hg w22 hbox hb;have n0_:=kb_ BK1 hb;have n1_:=a0_ (below_step hbw_ hb);have n2_:=a0_ (hbox);have n3_:=a0_ ((by rw [hg];exact (below_size hbw_) : w.heap.size ≤ gb2));have n4_:=a0_ ((by rw [hg];exact (below_size hbw_) : w.heap.size ≤ gb2));have n5_:=a0_ ((by rw [hg];exact Nat.ne_of_lt (blk_lt (bb_ BK1.out)) : gb1 ≠ gb2));have n6_:=a0_ ((by rw [hg];exact Nat.ne_of_gt (blk_lt (bb_ BK1.out)) : gb2 ≠ gb1));clear BK1 HB;have BK1:=n0_;have HB:=n1_;have BK2:=n2_;have GW2:=n3_;have GE2:=n4_;have NB1_2:=n5_;have NB2_1:=n6_;clear n0_ n1_ n2_ n3_ n4_ n5_ n6_;clear hb hbox hg;have hnb23:=NB1_2.out;have hnc23:=NB2_1.out;have hcz24_0 : w22.cell? ⟨gb1,0,none⟩ = some (.slice A0_0 l0_0.length c0_0):=(blk_cell BK1.out 0).trans rfl;have hfz24_0:=blk_frozen BK1.out 0;have hcz25_0 : w22.cell? ⟨gb2,0,none⟩ = some (.slice A1_0 l1_0.length c1_0):=(blk_cell BK2.out 0).trans rfl;have hfz25_0:=blk_frozen BK2.out 0));try go_wp2_with (first | ((with_reducible refine gate_dst (N:=2) rfl ?_);refine box_event ?hg (N:=2) ?hd (cs:=#[.slice A0_0 l0_0.length c0_0]) (t:=25) ?hr ?_;(case hd=>rfl);(case hg=>rfl);(case hr=>first | (go_simp;done) | (go_simp;rfl));intro gb1 hg w21 hbox hb;have BK1:=a0_ (hbox);have GW1:=a0_ ((by rw [hg];exact (below_size hbw_) : w.heap.size ≤ gb1));have GE1:=a0_ ((by rw [hg];exact (below_size hbw_) : w.heap.size ≤ gb1));replace HB:=a0_ (below_step hbw_ hb);clear hb hbox hg) | ((with_reducible refine gate_dst (N:=3) rfl ?_);refine box_event ?hg (N:=3) ?hd (cs:=#[.slice A1_0 l1_0.length c1_0]) (t:=25) ?hr ?_;(case hd=>rfl);(case hg=>rfl);(case hr=>first | (go_simp;done) | (go_simp;rfl));intro gb2 hg w22 hbox hb;have n0_:=kb_ BK1 hb;have n1_:=a0_ (below_step hbw_ hb);have n2_:=a0_ (hbox);have n3_:=a0_ ((by rw [hg];exact (below_size hbw_) : w.heap.size ≤ gb2));have n4_:=a0_ ((by rw [hg];exact (below_size hbw_) : w.heap.size ≤ gb2));have n5_:=a0_ ((by rw [hg];exact Nat.ne_of_lt (blk_lt (bb_ BK1.out)) : gb1 ≠ gb2));have n6_:=a0_ ((by rw [hg];exact Nat.ne_of_gt (blk_lt (bb_ BK1.out)) : gb2 ≠ gb1));clear BK1 HB;have BK1:=n0_;have HB:=n1_;have BK2:=n2_;have GW2:=n3_;have GE2:=n4_;have NB1_2:=n5_;have NB2_1:=n6_;clear n0_ n1_ n2_ n3_ n4_ n5_ n6_;clear hb hbox hg;have hnb23:=NB1_2.out;have hnc23:=NB2_1.out;have hcz24_0 : w22.cell? ⟨gb1,0,none⟩ = some (.slice A0_0 l0_0.length c0_0):=(blk_cell BK1.out 0).trans rfl;have hfz24_0:=blk_frozen BK1.out 0;have hcz25_0 : w22.cell? ⟨gb2,0,none⟩ = some (.slice A1_0 l1_0.length c1_0):=(blk_cell BK2.out 0).trans rfl;have hfz25_0:=blk_frozen BK2.out 0)))
  go_ret
  exact ⟨by first | rfl | (simp [errW_none,errW_some] <;> rfl) | (simp [*,errW_none,errW_some] <;> rfl),hbw_⟩
theorem laws_equalTree_ev (t : List Cls) (hl : t.length ≤ 9223372036854775806) : Ev (fun k=>laws_equalTree.f k t t) true:=by
 have key : ∀ d j,j + d = t.length → Ev (fun k=>laws_equalTree.l0 k (j : Int) t t) true:=by
  intro d
  induction d with
  | zero =>
   intro j hj
   refine Ev.succ ?_
   simp only [laws_equalTree.l0]
   exact Ev.neg (by omega) (Ev.const rfl)
  | succ d ih =>
   intro j hj
   refine Ev.succ ?_
   simp only [laws_equalTree.l0]
   rw [wrap_succ (i:=(j : Int)) (n:=t.length) (by omega) (by omega) (by omega)]
   exact Ev.pos (by omega) (Ev.pos (by omega) (Ev.pos (by omega) (Ev.neg (by simp) (ih (j + 1) (by omega)))))
 unfold laws_equalTree.f
 exact Ev.pos rfl (key t.length 0 (by omega))
end Go.Proofs.Ytacgehaipacehaa.P
namespace Go.Proofs.Ytacgehaipacehaa.P
open Go.RowKit Go.Proofs.YtacgehaipacehaaW.PrintWords Go.Proofs.YtacgehaipacehaaW.PrintLast Go.Proofs.YtacgehaipacehaaW.PrintMore
attribute [local go_sem] max2_int min2_int max_two min_two max_three min_three max_four min_four
set_option linter.unusedVariables false
set_option linter.unusedSimpArgs false
def laws_newlines.l0 : Nat → ByteArray → Int → Int → Option (Int)
 | 0,_,_,_=>none
 | k + 1,x0,x3,x4=>if x4 < (x0.size : Int) then (if 0 ≤ x4 then (if (bt x0 x4) = 10 then (laws_newlines.l0 k x0 (wrap64 (x3 + 1)) (wrap64 (x4 + 1))) else (laws_newlines.l0 k x0 x3 (wrap64 (x4 + 1)))) else (none)) else (some x3)
def laws_newlines.f (k : Nat) (a0 : ByteArray) : Option (Int):=laws_newlines.l0 k a0 0 0
theorem laws_newlines.mono_l : ∀ k,(∀ y0 y1 y2,LeO (laws_newlines.l0 k y0 y1 y2) (laws_newlines.l0 (k + 1) y0 y1 y2))
 | 0=>fun _ _ _ r h=>by simp [laws_newlines.l0] at h
 | k + 1=>by
  have ih0:=laws_newlines.mono_l k
  ·intro y0 y1 y2
   unfold laws_newlines.l0
   repeat' first
   | (with_reducible exact ih0 _ _ _)
   | (with_reducible exact LeO.refl _)
   | (with_reducible exact LeO.none _)
   | (with_reducible refine LeO.ite ?_ ?_)
   | (with_reducible refine LeO.bind ?_ (fun _=>?_))
   | exact ih0 _ _ _
   | exact LeO.none _
   | refine LeO.ite ?_ ?_
   | refine LeO.bind ?_ (fun _=>?_)
theorem laws_newlines.mono : ∀ a0 k,LeO (laws_newlines.f k a0) (laws_newlines.f (k + 1) a0):=by
 intro a0 k
 have ih0:=laws_newlines.mono_l k
 unfold laws_newlines.f
 repeat' first
   | (with_reducible exact ih0 _ _ _)
   | (with_reducible exact LeO.refl _)
   | (with_reducible exact LeO.none _)
   | (with_reducible refine LeO.ite ?_ ?_)
   | (with_reducible refine LeO.bind ?_ (fun _=>?_))
   | exact ih0 _ _ _
   | exact LeO.none _
   | refine LeO.ite ?_ ?_
   | refine LeO.bind ?_ (fun _=>?_)
set_option maxHeartbeats 8000000 in
set_option maxRecDepth 100000 in
theorem laws_newlines.calls (k : Nat) (a0 : ByteArray) (r : Int) (w : World) (h : laws_newlines.f k a0 = some r) :
  Calls Try.prog 52 #[.string a0] w fun e w'=>e = .returned (.int .i64 r) ∧ Drawn0 w w':=by
 have H : (laws_newlines.l0 k a0 0 0) = some r:=h
 clear h
 have H':=a0_ H
 clear H
 go_enter Try.func52,Try.ntmps52
 go_wp2
 go_loopg [3,4] k (fun kq v3 v4 w'=>∃ (x3_1 : Int) (x4_1 : Int),v3 = .int .i64 x3_1 ∧ v4 = .int .i64 x4_1 ∧ Aside0 (laws_newlines.l0 kq a0 x3_1 x4_1 = some r) ∧ Aside0 (kq ≤ k) ∧ Drawn0 w w')
 case atStart=>exact ⟨(0),(0),(by first | rfl | (simp;done) | (simp [*];done)),(by first | rfl | (simp;done) | (simp [*];done)),H',⟨Nat.le_refl _⟩,by repeat (first | exact Drawn0.refl _ | apply Drawn0.step)⟩
 case round =>
  clear H'
  obtain ⟨x3_1,x4_1,rfl,rfl,HA,HK1,⟨m1,rfl⟩⟩:=hrel
  cases gk with
  | zero=>exact absurd HA.out (by simp [laws_newlines.l0])
  | succ k1 =>
   have H:=HA.out
   clear HA
   simp only [laws_newlines.l0] at H
   by_cases c2 : x4_1 < (a0.size : Int)
   ·rw [if_pos c2] at H
    have c2b0 : decide (x4_1 < (a0.size : Int)) = true:=decide_eq_true c2
    clear c2
    by_cases c3 : 0 ≤ x4_1
    ·rw [if_pos c3] at H
     have c3b0 : decide (0 ≤ x4_1) = true:=decide_eq_true c3
     clear c3
     by_cases c5 : (bt a0 x4_1) = 10
     ·rw [if_pos c5] at H
      have c5b0 : ((bt a0 x4_1) == 10) = true:=beq_iff_eq.mpr c5
      have c5b1 : ((bt a0 x4_1) != 10) = false:=bne_eq_false_iff_eq.mpr c5
      clear c5
      have H':=a0_ H
      clear H
      have p4 : 0 ≤ (x4_1 : Int):=of_decide_eq_true (by first | (with_reducible assumption) | assumption)
      have q4 : x4_1 < (a0.size : Int):=of_decide_eq_true (by first | (with_reducible assumption) | assumption)
      have hx4:=bt_at a0 x4_1
      replace p4:=eq_true p4
      replace q4:=eq_true q4
      go_wp2
      go_roundg k1
      case measure=>have:=HK1.out;omega
      case rel=>exact ⟨(wrap64 (x3_1 + 1)),(wrap64 (x4_1 + 1)),(by first | rfl | (simp;done) | (simp [*];done)),(by first | rfl | (simp;done) | (simp [*];done)),H',⟨by have:=HK1.out;omega⟩,by repeat (first | exact Drawn0.refl _ | apply Drawn0.step)⟩
     ·rw [if_neg c5] at H
      have c5b0 : ((bt a0 x4_1) == 10) = false:=beq_eq_false_iff_ne.mpr c5
      have c5b1 : ((bt a0 x4_1) != 10) = true:=bne_iff_ne.mpr c5
      have H':=a0_ H
      clear H
      have p4 : 0 ≤ (x4_1 : Int):=of_decide_eq_true (by first | (with_reducible assumption) | assumption)
      have q4 : x4_1 < (a0.size : Int):=of_decide_eq_true (by first | (with_reducible assumption) | assumption)
      have hx4:=bt_at a0 x4_1
      replace p4:=eq_true p4
      replace q4:=eq_true q4
      go_wp2
      go_roundg k1
      case measure=>have:=HK1.out;omega
      case rel=>exact ⟨(x3_1),(wrap64 (x4_1 + 1)),(by first | rfl | (simp;done) | (simp [*];done)),(by first | rfl | (simp;done) | (simp [*];done)),H',⟨by have:=HK1.out;omega⟩,by repeat (first | exact Drawn0.refl _ | apply Drawn0.step)⟩
    ·rw [if_neg c3] at H
     exact absurd H (by simp)
   ·rw [if_neg c2] at H
    have c2b0 : decide (x4_1 < (a0.size : Int)) = false:=decide_eq_false c2
    clear c2
    obtain rfl:=Option.some.inj H
    go_wp2
    go_ret
    exact ⟨by first | rfl | (simp;done) | (simp [*];done),by repeat (first | exact Drawn0.refl _ | apply Drawn0.step)⟩
theorem laws_newlines_ev (s : ByteArray) (hs : s.size ≤ 1099511627776) : Ev (fun k=>laws_newlines.f k s) (((ofB s).count 10 : Nat) : Int):=by
 have hl : (ofB s).length = s.size:=ofB_len s
 have key : ∀ d j (n : Nat),j + d = s.size → n ≤ j → Ev (fun k=>laws_newlines.l0 k s (n : Int) (j : Int)) ((n + ((ofB s).drop j).count 10 : Nat) : Int):=by
  intro d
  induction d with
  | zero =>
   intro j n hj hn
   refine Ev.succ ?_
   simp only [laws_newlines.l0]
   rw [List.drop_of_length_le (by omega)]
   exact Ev.neg (by omega) (Ev.const (by simp))
  | succ d ih =>
   intro j n hj hn
   have hlt : j < s.size:=by omega
   have hd : (ofB s).drop j = s[j]'hlt :: (ofB s).drop (j + 1):=by
    rw [List.drop_eq_getElem_cons (by omega)]
    rfl
   have hb : bt s (j : Int) = ((s[j]'hlt).toNat : Int):=bt_getElem s j hlt
   have hw : wrap64 ((j : Int) + 1) = ((j + 1 : Nat) : Int):=by rw [wrap_succ (n:=s.size) (by omega) (by omega) (by omega)];omega
   have hw2 : wrap64 ((n : Int) + 1) = ((n + 1 : Nat) : Int):=by rw [wrap_in (by omega) (by omega)];omega
   refine Ev.succ ?_
   simp only [laws_newlines.l0]
   rw [hd,hb,hw,hw2]
   refine Ev.pos (by omega) ?_
   refine Ev.pos (by omega) ?_
   by_cases e : s[j]'hlt = 10
   ·refine Ev.pos (by rw [e];rfl) ?_
    rw [e,List.count_cons_self]
    have:=ih (j + 1) (n + 1) (by omega) (by omega)
    rw [show n + 1 + ((ofB s).drop (j + 1)).count 10 = n + (((ofB s).drop (j + 1)).count 10 + 1) by omega] at this
    exact this
   ·refine Ev.neg (fun h=>e ?_) ?_
    ·exact UInt8.toNat_inj.1 (show s[j].toNat = 10 by omega)
    ·rw [List.count_cons_of_ne (by simpa using e)]
     exact ih (j + 1) n (by omega) (by omega)
 have:=key s.size 0 0 (by omega) (Nat.le_refl _)
 unfold laws_newlines.f
 simpa using this
theorem count_lines {t : List Cls} (h : vT t = true) : (ofB (treeTx t)).count 10 = t.length:=by
 have key : ∀ j,j ≤ t.length → (linesL t (t.take j)).count 10 = j:=by
  intro j
  induction j with
  | zero=>intro _;simp [linesL]
  | succ j ih =>
   intro hj
   have h1:=ih (by omega)
   rw [← take_snoc j (by omega)]
   unfold linesL at h1 ⊢
   rw [List.flatMap_append,List.flatMap_singleton,List.count_append,h1,lineL_bod,List.count_append,List.count_eq_zero.2 (fun hm=>bod_not h j (by omega) 10 hm rfl)]
   rfl
 have:=key t.length (Nat.le_refl _)
 rw [List.take_of_length_le (Nat.le_refl _)] at this
 unfold treeTx
 rw [ofB_toB]
 exact this
end Go.Proofs.Ytacgehaipacehaa.P
namespace Go.Proofs.Ytacgehaipacehaa.P
open Go.RowKit Go.Proofs.YtacgehaipacehaaW.PrintWords Go.Proofs.YtacgehaipacehaaW.PrintLast Go.Proofs.YtacgehaipacehaaW.PrintMore
attribute [local go_sem] max2_int min2_int max_two min_two max_three min_three max_four min_four
set_option linter.unusedVariables false
set_option linter.unusedSimpArgs false
def laws_FnTreeText.j0 : Nat → ByteArray → Bool → List (S125) → Option (Bool)
 | 0,_,_,_=>none
 | k + 1,x4,x21,x5000=>if x21 = true then ((spec_TreeText.f k x5000).bind fun t7=>(some (x4.toList == t7.toList))) else ((impl_ParseTree.f k x4).bind fun bt8=>(if bt8.2 = true then ((laws_equalTree.f k bt8.1 x5000).bind fun t13=>(if t13 = true then ((laws_newlines.f k x4).bind fun t14=>(some (t14 == (x5000.length : Int)))) else (some false))) else (some false)))
def laws_FnTreeText.f (k : Nat) (l0 : List Int) : Option (Bool):=if (l0.length : Int) > 1048576 then (some true) else ((spec_DrawTreeText.f k l0).bind fun t1=>((impl_TreeText.f t1).bind fun t5=>((spec_TreeText.f k t1).bind fun t6=>(if t5.toList = t6.toList then (laws_FnTreeText.j0 k t5 (t5.toList == ([] : List UInt8)) t1) else (laws_FnTreeText.j0 k t5 true t1)))))
theorem laws_FnTreeText.mono_l : ∀ k,(∀ y0 y1 y2,LeO (laws_FnTreeText.j0 k y0 y1 y2) (laws_FnTreeText.j0 (k + 1) y0 y1 y2))
 | 0=>fun _ _ _ r h=>by simp [laws_FnTreeText.j0] at h
 | k + 1=>by
  have ih0:=laws_FnTreeText.mono_l k
  ·intro y0 y1 y2
   unfold laws_FnTreeText.j0
   repeat' first
   | (with_reducible exact ih0 _ _ _)
   | (with_reducible exact impl_ParseTree.mono _ _)
   | (with_reducible exact laws_equalTree.mono _ _ _)
   | (with_reducible exact laws_newlines.mono _ _)
   | (with_reducible exact spec_DrawTreeText.mono _ _)
   | (with_reducible exact spec_TreeText.mono _ _)
   | (with_reducible exact LeO.refl _)
   | (with_reducible exact LeO.none _)
   | (with_reducible refine LeO.ite ?_ ?_)
   | (with_reducible refine LeO.bind ?_ (fun _=>?_))
   | exact ih0 _ _ _
   | exact impl_ParseTree.mono _ _
   | exact laws_equalTree.mono _ _ _
   | exact laws_newlines.mono _ _
   | exact spec_DrawTreeText.mono _ _
   | exact spec_TreeText.mono _ _
   | exact LeO.none _
   | refine LeO.ite ?_ ?_
   | refine LeO.bind ?_ (fun _=>?_)
theorem laws_FnTreeText.mono : ∀ a0 k,LeO (laws_FnTreeText.f k a0) (laws_FnTreeText.f (k + 1) a0):=by
 intro a0 k
 have ih0:=laws_FnTreeText.mono_l k
 unfold laws_FnTreeText.f
 repeat' first
   | (with_reducible exact ih0 _ _ _)
   | (with_reducible exact impl_ParseTree.mono _ _)
   | (with_reducible exact laws_equalTree.mono _ _ _)
   | (with_reducible exact laws_newlines.mono _ _)
   | (with_reducible exact spec_DrawTreeText.mono _ _)
   | (with_reducible exact spec_TreeText.mono _ _)
   | (with_reducible exact LeO.refl _)
   | (with_reducible exact LeO.none _)
   | (with_reducible refine LeO.ite ?_ ?_)
   | (with_reducible refine LeO.bind ?_ (fun _=>?_))
   | exact ih0 _ _ _
   | exact impl_ParseTree.mono _ _
   | exact laws_equalTree.mono _ _ _
   | exact laws_newlines.mono _ _
   | exact spec_DrawTreeText.mono _ _
   | exact spec_TreeText.mono _ _
   | exact LeO.none _
   | refine LeO.ite ?_ ?_
   | refine LeO.bind ?_ (fun _=>?_)
def laws_FnTreeText.T8 : Bool × List (List Nat × List Nat):=(true,[([],[]),([0],[0]),([1],[1]),([1],[1]),([2,3,1,1],[1,2,3]),([1,4],[1,4]),([5,4],[5]),([6],[6]),([7,6,6],[6,7]),([6],[6]),([9,6],[6,9]),([10,6],[6,10]),([8,11,6],[6,8,11]),([6,12],[6,12]),([13,8,0,1,2,3,4,5,6,7,8,9,10,11,12,13],[13])])
def laws_FnTreeText.B8 : List Nat:=[0,1,3,3,15,31,63,127,255,127,639,1663,4095,8191,16383]
theorem laws_FnTreeText.tab8 : rtab .any (opsOf Try.f9 8) = laws_FnTreeText.T8:=by kernel_rfl
theorem laws_FnTreeText.bits8 : waitsOk laws_FnTreeText.T8.2 laws_FnTreeText.B8 = true:=by kernel_rfl
set_option maxHeartbeats 8000000 in
set_option maxRecDepth 100000 in
theorem laws_FnTreeText.calls (k : Nat) (A0 : Option Addr) (c0 : Nat) (l0 : List Int) (r : Bool) (w : World) (hr0 : Kd.C (Kd.int .u8) w A0 l0.length l0) (hc0 : l0.length ≤ c0) (h : laws_FnTreeText.f k l0 = some r) :
  Calls Try.prog 9 #[.slice A0 l0.length c0] w fun e w'=>e = .returned (.bool r) ∧ Below w.heap.size w w':=by
 have hu25:=Try.underlying25
 have HR0:=a0_ hr0
 have HC0:=a0_ hc0
 clear hr0 hc0
 have HB:=a0_ (Below.refl w.heap.size w)
 have H : (if (l0.length : Int) > 1048576 then (some true) else ((spec_DrawTreeText.f k l0).bind fun t1=>((impl_TreeText.f t1).bind fun t5=>((spec_TreeText.f k t1).bind fun t6=>(if t5.toList = t6.toList then (laws_FnTreeText.j0 k t5 (t5.toList == ([] : List UInt8)) t1) else (laws_FnTreeText.j0 k t5 true t1)))))) = some r:=h
 clear h
 by_cases c2 : (l0.length : Int) > 1048576
 ·rw [if_pos c2] at H
  have c2b0 : decide (1048576 < (l0.length : Int)) = true:=decide_eq_true c2
  have c2b1 : decide (1048576 < l0.length) = true:=decide_eq_true (by omega)
  clear c2
  obtain rfl:=Option.some.inj H
  go_enter Try.func9,Try.ntmps9
  go_wp2
  go_ret
  exact ⟨by first | rfl | (simp [errW_none,errW_some] <;> rfl) | (simp [*,errW_none,errW_some] <;> rfl),hbw_⟩
 ·rw [if_neg c2] at H
  have c2b0 : decide (1048576 < (l0.length : Int)) = false:=decide_eq_false c2
  have c2b1 : decide (1048576 < l0.length) = false:=decide_eq_false (by omega)
  clear c2
  replace H:=Option.bind_eq_some_iff.mp H
  obtain ⟨t1,A30,H⟩:=H
  try dsimp only at H
  have A3:=a0_ A30
  clear A30
  replace H:=Option.bind_eq_some_iff.mp H
  obtain ⟨t5,A40,H⟩:=H
  try dsimp only at H
  have A4:=a0_ A40
  clear A40
  have HC5:=a0_ H
  clear H
  go_enter Try.func9,Try.ntmps9
  go_upto_region 5 with (first | ((with_reducible refine gate_callee (f:=48) rfl ?_);refine goesL_ (some 11) rfl rfl Try.func48 (by kernel_rfl) rfl #[.slice A0 l0.length c0] rfl lm_ ?_;(with_reducible refine (spec_DrawTreeText.calls k _ _ l0 t1 _ ?side1 ?side2 A3.out).mono ?_);(case side1=>repeat (first | exact HR0.out | (with_reducible refine Kd.C_alloc ?_ _) | (with_reducible refine Kd.C_drewN ?_ _) | (with_reducible refine Kd.C_drew ?_)));(case side2=>exact HC0.out);rintro e w6 ⟨v2,rfl,ho0,hb⟩;refine ⟨_,rfl,?_⟩;have HO3:=a0_ (Kd.R_lower ho0 (below_size hbw_));replace HB:=a0_ (below_step hbw_ hb);(try clear hb);(try clear ho0)) | ((with_reducible refine gate_dst (N:=3) rfl ?_);(try (refine gate_guard (by rfl) ?_;dsimp only));refine box_event ?hg (N:=3) ?hd (cs:=#[.slice none 0 0]) (t:=25) ?hr ?_;(case hd=>rfl);(case hg=>rfl);(case hr=>first | (go_simp;done) | (go_simp;rfl));intro gb4 hg w7 hbox hb;replace HO3:=rb_ HO3 hb;have BK4:=a0_ (hbox);have GW4:=a0_ ((by rw [hg];exact (below_size hbw_) : w.heap.size ≤ gb4));have GE4:=a0_ ((by rw [hg];exact (below_size hbw_) : w.heap.size ≤ gb4));replace HB:=a0_ (below_step hbw_ hb);clear hb hbox hg;obtain ⟨Ao8,co8,eo8⟩:=Kd.R_slice HO3.out;subst eo8;have hcz9_0 : w7.cell? ⟨gb4,0,none⟩ = some (.slice none 0 0):=(blk_cell BK4.out 0).trans rfl;have hfz9_0:=blk_frozen BK4.out 0) | ((with_reducible refine gate_callee (f:=49) rfl ?_);refine goesL_ (some 13) rfl rfl Try.func49 (by kernel_rfl) rfl #[.agg #[.slice Ao8 t1.length co8]] rfl lm_ ?_;(with_reducible refine (impl_TreeText.calls _ _ t1 t5 _ ?side1 ?side2 A4.out).mono ?_);(case side1=>refine (Kd.R_reads' (e:=125) (base:=w.heap.size) (ok:=fun k_=>True) (n:=t1.length) (c:=co8) ?_).2.2;exact (by (with_reducible repeat (first | apply Kd.R_alloc | apply Kd.R_drewN | apply Kd.R_drew));exact (Kd.R_mono (Kd.R_far (p:=⟨gb4,0,none⟩) (Kd.R_types HO3.out BK4.out (by decide)) (fun _ hk=>hk.2) (.slice Ao8 t1.length co8)) (fun _ h_=>h_.1))));(case side2=>exact (Kd.R_reads' HO3.out).2.1);rintro e w10 ⟨rfl,hb⟩;refine ⟨_,rfl,?_⟩;replace HO3:=a0_ (Kd.R_below (by (with_reducible repeat (first | apply Kd.R_alloc | apply Kd.R_drewN | apply Kd.R_drew));exact (Kd.R_mono (Kd.R_far (p:=⟨gb4,0,none⟩) (Kd.R_types HO3.out BK4.out (by decide)) (fun _ hk=>hk.2) (.slice Ao8 t1.length co8)) (fun _ h_=>h_.1))) hb);replace BK4:=a0_ (blk_below (g:=gb4) (o:=.cells #[.slice Ao8 t1.length co8] 25 (0,0)) (by (with_reducible repeat (first | refine blk_drewN ?_ _ | refine blk_drew ?_ | refine blk_alloc ?_ _));refine blk_put (cs:=#[.slice none 0 0]) ?_ 0 _ rfl;(with_reducible repeat (first | refine blk_drewN ?_ _ | refine blk_drew ?_ | refine blk_alloc ?_ _));exact BK4.out) hb);replace HB:=a0_ (below_step hbw_ hb);(try clear hb);(try clear hb2);(try clear hk);(try clear hi)))
  (try simp only [Act.put,s1_,s2_,s3_])
  go_cut [21] (fun v21 wc=>∃ (kq : Nat) (x21_4 : Bool),v21 = .bool x21_4 ∧ Aside0 (laws_FnTreeText.j0 kq t5 x21_4 t1 = some r) ∧ Aside0 (kq ≤ k) ∧ Aside0 (Kd.R k125 125 wc w.heap.size (fun _=>True) (.slice Ao8 t1.length co8) t1) ∧ Aside0 (wc.heap[gb4]? = some (.cells #[(.slice Ao8 t1.length co8)] 25 (0,0))) ∧ Aside0 (Below w.heap.size w wc))
  case first =>
   have H:=HC5.out
   clear HC5
   replace H:=Option.bind_eq_some_iff.mp H
   obtain ⟨t6,A110,H⟩:=H
   try dsimp only at H
   have A11:=a0_ A110
   clear A110
   by_cases c12 : t5.toList = t6.toList
   ·rw [if_pos c12] at H
    have c12b0 : (t5.toList == t6.toList) = true:=beq_iff_eq.mpr c12
    have c12b1 : (t5.toList != t6.toList) = false:=bne_eq_false_iff_eq.mpr c12
    clear c12
    (first | rw [c12b0] | (simp only [i64_w,i32_w];rw [c12b0]) | skip)
    have H':=a0_ H
    clear H
    have hcz13_0 : w10.cell? ⟨gb4,0,none⟩ = some (.slice Ao8 t1.length co8):=(blk_cell BK4.out 0).trans rfl
    have hfz13_0:=blk_frozen BK4.out 0
    go_wp2_with (first | ((with_reducible refine gate_callee (f:=50) rfl ?_);refine goesL_ (some 16) rfl rfl Try.func50 (by kernel_rfl) rfl #[.agg #[.slice Ao8 t1.length co8]] rfl lm_ ?_;(with_reducible refine (spec_TreeText.calls k _ _ t1 t6 _ ?side1 ?side2 A11.out).mono ?_);(case side1=>exact cc_ (Kd.R_reads' HO3.out).2.2);(case side2=>exact (Kd.R_reads' HO3.out).2.1);rintro e w14 ⟨rfl,hb⟩;refine ⟨_,rfl,?_⟩;replace HO3:=rb_ HO3 hb;replace BK4:=kb_ BK4 hb;replace HB:=a0_ (below_step hbw_ hb);(try clear hb);(try clear hb2);(try clear hk);(try clear hi)))
    go_meet
    case rel=>exact ⟨_,((t5.toList == ([] : List UInt8))),(by first | rfl | (simp;done) | (simp [*];done)),H',⟨by first | omega | exact Nat.le_refl _⟩,⟨by (with_reducible repeat (first | apply Kd.R_alloc | apply Kd.R_drewN | apply Kd.R_drew));exact HO3.out⟩,⟨by (with_reducible repeat (first | refine blk_drewN ?_ _ | refine blk_drew ?_ | refine blk_alloc ?_ _));exact BK4.out⟩,⟨hbw_⟩⟩
   ·rw [if_neg c12] at H
    have c12b0 : (t5.toList == t6.toList) = false:=beq_eq_false_iff_ne.mpr c12
    have c12b1 : (t5.toList != t6.toList) = true:=bne_iff_ne.mpr c12
    (first | rw [c12b0] | (simp only [i64_w,i32_w];rw [c12b0]) | skip)
    have H':=a0_ H
    clear H
    have hcz15_0 : w10.cell? ⟨gb4,0,none⟩ = some (.slice Ao8 t1.length co8):=(blk_cell BK4.out 0).trans rfl
    have hfz15_0:=blk_frozen BK4.out 0
    go_wp2_with (first | ((with_reducible refine gate_callee (f:=50) rfl ?_);refine goesL_ (some 16) rfl rfl Try.func50 (by kernel_rfl) rfl #[.agg #[.slice Ao8 t1.length co8]] rfl lm_ ?_;(with_reducible refine (spec_TreeText.calls k _ _ t1 t6 _ ?side1 ?side2 A11.out).mono ?_);(case side1=>exact cc_ (Kd.R_reads' HO3.out).2.2);(case side2=>exact (Kd.R_reads' HO3.out).2.1);rintro e w16 ⟨rfl,hb⟩;refine ⟨_,rfl,?_⟩;replace HO3:=rb_ HO3 hb;replace BK4:=kb_ BK4 hb;replace HB:=a0_ (below_step hbw_ hb);(try clear hb);(try clear hb2);(try clear hk);(try clear hi)))
    go_meet
    case rel=>exact ⟨_,(true),(by first | rfl | (simp;done) | (simp [*];done)),H',⟨by first | omega | exact Nat.le_refl _⟩,⟨by (with_reducible repeat (first | apply Kd.R_alloc | apply Kd.R_drewN | apply Kd.R_drew));exact HO3.out⟩,⟨by (with_reducible repeat (first | refine blk_drewN ?_ _ | refine blk_drew ?_ | refine blk_alloc ?_ _));exact BK4.out⟩,⟨hbw_⟩⟩
  case rest =>
   clear HC5
   try clear c1
   try clear c2
   try clear c2b0
   try clear c2b1
   try clear p2
   try clear c4
   try clear c5
   try clear c9
   try clear c12
   try clear c12b0
   try clear c12b1
   try clear hcz13_0
   try clear hcz15_0
   try clear hcz9_0
   try clear hfz13_0
   try clear hfz15_0
   try clear hfz9_0
   obtain ⟨kq,x21_4,rfl,HA,HJ4,Z5,BK4,HB⟩:=hcut
   cases kq with
   | zero=>exact absurd HA.out (by simp [laws_FnTreeText.j0])
   | succ kj4 =>
    have H:=HA.out
    clear HA
    simp only [laws_FnTreeText.j0] at H
    by_cases c17 : x21_4 = true
    ·subst c17
     have H1 : ((spec_TreeText.f kj4 t1).bind fun t7=>(some (t5.toList == t7.toList))) = some r:=by rw [if_pos rfl] at H;exact H
     clear H
     have H:=H1
     clear H1
     replace H:=Option.bind_eq_some_iff.mp H
     obtain ⟨t7,A180,H⟩:=H
     replace H : (some (t5.toList == t7.toList)) = some r:=H
     have A18:=a0_ A180
     clear A180
     obtain rfl:=Option.some.inj H
     have hcz19_0 : wc.cell? ⟨gb4,0,none⟩ = some (.slice Ao8 t1.length co8):=(blk_cell BK4.out 0).trans rfl
     have hfz19_0:=blk_frozen BK4.out 0
     go_wp2_with (first | ((with_reducible refine gate_callee (f:=50) rfl ?_);refine goesL_ (some 24) rfl rfl Try.func50 (by kernel_rfl) rfl #[.agg #[.slice Ao8 t1.length co8]] rfl lm_ ?_;(with_reducible refine (spec_TreeText.calls kj4 _ _ t1 t7 _ ?side1 ?side2 A18.out).mono ?_);(case side1=>exact cc_ (Kd.R_reads' Z5.out).2.2);(case side2=>exact (Kd.R_reads' Z5.out).2.1);rintro e w20 ⟨rfl,hb⟩;refine ⟨_,rfl,?_⟩;replace Z5:=rb_ Z5 hb;replace BK4:=kb_ BK4 hb;replace HB:=a0_ (below_step hbw_ hb);(try clear hb);(try clear hb2);(try clear hk);(try clear hi)))
     go_ret
     exact ⟨by first | rfl | (simp [errW_none,errW_some] <;> rfl) | (simp [*,errW_none,errW_some] <;> rfl),hbw_⟩
    ·replace c17:=Bool.eq_false_iff.mpr c17
     subst c17
     have H1 : ((impl_ParseTree.f kj4 t5).bind fun bt8=>(if bt8.2 = true then ((laws_equalTree.f kj4 bt8.1 t1).bind fun t13=>(if t13 = true then ((laws_newlines.f kj4 t5).bind fun t14=>(some (t14 == (t1.length : Int)))) else (some false))) else (some false))) = some r:=by rw [if_neg (show ¬ (false = true) by decide)] at H;exact H
     clear H
     have H:=H1
     clear H1
     replace H:=Option.bind_eq_some_iff.mp H
     obtain ⟨⟨t8,t11⟩,A210,H⟩:=H
     try dsimp only at H
     have A21:=a0_ A210
     clear A210
     by_cases c22 : t11 = true
     ·subst c22
      have H1 : ((laws_equalTree.f kj4 t8 t1).bind fun t13=>(if t13 = true then ((laws_newlines.f kj4 t5).bind fun t14=>(some (t14 == (t1.length : Int)))) else (some false))) = some r:=by rw [if_pos rfl] at H;exact H
      clear H
      have H:=H1
      clear H1
      replace H:=Option.bind_eq_some_iff.mp H
      obtain ⟨t13,A230,H⟩:=H
      try dsimp only at H
      have A23:=a0_ A230
      clear A230
      by_cases c24 : t13 = true
      ·subst c24
       have H1 : ((laws_newlines.f kj4 t5).bind fun t14=>(some (t14 == (t1.length : Int)))) = some r:=by rw [if_pos rfl] at H;exact H
       clear H
       have H:=H1
       clear H1
       replace H:=Option.bind_eq_some_iff.mp H
       obtain ⟨t14,A250,H⟩:=H
       replace H : (some (t14 == (t1.length : Int))) = some r:=H
       have A25:=a0_ A250
       clear A250
       obtain rfl:=Option.some.inj H
       try go_wp2_with (first | ((with_reducible refine gate_callee (f:=39) rfl ?_);refine goesL_ (some 28) rfl rfl Try.func39 (by kernel_rfl) rfl #[.string t5] rfl lm_ ?_;(with_reducible refine (impl_ParseTree.calls kj4 t5 t8 true _ A21.out).mono ?_);rintro e w26 ⟨v9,rfl,ho0,hb⟩;refine ⟨_,rfl,?_⟩;have n0_:=a0_ (Kd.R_elder' (rr_ Z5.out) (Kd.R_base ho0) hb);have n1_:=a0_ (Kd.R_lower (Kd.R_new' ho0 (Kd.R_lt (rr_ Z5.out))) (below_size hbw_));have n2_:=kb_ BK4 hb;have n3_:=a0_ (below_step hbw_ hb);clear Z5 BK4 HB;have Z5:=n0_;have HO10:=n1_;have BK4:=n2_;have HB:=n3_;clear n0_ n1_ n2_ n3_;(try clear hb);(try clear ho0)) | ((with_reducible refine gate_dst (N:=5) rfl ?_);(try (refine gate_guard (by rfl) ?_;dsimp only));refine box_event ?hg (N:=5) ?hd (cs:=#[.slice none 0 0]) (t:=25) ?hr ?_;(case hd=>rfl);(case hg=>rfl);(case hr=>first | (go_simp;done) | (go_simp;rfl));intro gb12 hg w27 hbox hb;have n0_:=rb_ Z5 hb;have n1_:=rb_ HO10 hb;have n2_:=kb_ BK4 hb;have n3_:=a0_ (below_step hbw_ hb);have n4_:=a0_ (hbox);have n5_:=a0_ ((by rw [hg];exact (below_size hbw_) : w.heap.size ≤ gb12));have n6_:=a0_ ((by rw [hg];exact (below_size hbw_) : w.heap.size ≤ gb12));have n7_:=a0_ ((by rw [hg];exact Nat.ne_of_lt (blk_lt (bb_ BK4.out)) : gb4 ≠ gb12));have n8_:=a0_ ((by rw [hg];exact Nat.ne_of_gt (blk_lt (bb_ BK4.out)) : gb12 ≠ gb4));clear Z5 HO10;clear BK4 HB;have Z5:=n0_;have HO10:=n1_;have BK4:=n2_;have HB:=n3_;have BK12:=n4_;have GW12:=n5_;have GE12:=n6_;have NB4_12:=n7_;have NB12_4:=n8_;clear n0_ n1_ n2_ n3_ n4_ n5_ n6_ n7_ n8_;clear hb hbox hg;obtain ⟨Ao28,co28,eo28⟩:=Kd.R_slice HO10.out;subst eo28;have hnb29:=NB12_4.out;have hnc29:=NB4_12.out;have hcz30_0 : w27.cell? ⟨gb12,0,none⟩ = some (.slice none 0 0):=(blk_cell BK12.out 0).trans rfl;have hfz30_0:=blk_frozen BK12.out 0))
       have n0_ : Aside0 (Kd.R k125 125 (w27.setCell ⟨gb12,0,none⟩ (.slice Ao28 t8.length co28)) w.heap.size (fun k_=>some k_ ≠ (.slice Ao28 t8.length co28 : Value).ownBlock) (.slice Ao8 t1.length co8) t1):=⟨by (with_reducible repeat (first | apply Kd.R_alloc | apply Kd.R_drewN | apply Kd.R_drew));exact Kd.R_mono (Kd.R_far (p:=⟨gb12,0,none⟩) (Kd.R_types Z5.out BK12.out (by decide)) (fun _ hk=>hk.2) (.slice Ao28 t8.length co28)) (fun _ hk=>hk.1.2)⟩
       have n1_ : Aside0 (Kd.R k125 125 (w27.setCell ⟨gb12,0,none⟩ (.slice Ao28 t8.length co28)) w.heap.size (fun k_=>some k_ ≠ (.slice Ao8 t1.length co8 : Value).ownBlock) (.slice Ao28 t8.length co28) t8):=⟨by (with_reducible repeat (first | apply Kd.R_alloc | apply Kd.R_drewN | apply Kd.R_drew));exact Kd.R_mono (Kd.R_far (p:=⟨gb12,0,none⟩) (Kd.R_types HO10.out BK12.out (by decide)) (fun _ hk=>hk.2) (.slice Ao28 t8.length co28)) (fun _ hk=>hk.1.2)⟩
       have n2_ : Aside0 ((w27.setCell ⟨gb12,0,none⟩ (.slice Ao28 t8.length co28)).heap[gb4]? = some (.cells #[.slice Ao8 t1.length co8] 25 (0,0))):=⟨by (with_reducible repeat (first | refine blk_drewN ?_ _ | refine blk_drew ?_ | refine blk_alloc ?_ _));refine blk_far ?_ NB4_12.out _;(with_reducible repeat (first | refine blk_drewN ?_ _ | refine blk_drew ?_ | refine blk_alloc ?_ _));exact BK4.out⟩
       have n3_ : Aside0 ((w27.setCell ⟨gb12,0,none⟩ (.slice Ao28 t8.length co28)).heap[gb12]? = some (.cells #[.slice Ao28 t8.length co28] 25 (0,0))):=⟨by (with_reducible repeat (first | refine blk_drewN ?_ _ | refine blk_drew ?_ | refine blk_alloc ?_ _));refine blk_put (cs:=#[.slice none 0 0]) ?_ 0 _ rfl;(with_reducible repeat (first | refine blk_drewN ?_ _ | refine blk_drew ?_ | refine blk_alloc ?_ _));exact BK12.out⟩
       have n4_ : Aside0 (Below w.heap.size w (w27.setCell ⟨gb12,0,none⟩ (.slice Ao28 t8.length co28))):=⟨hbw_⟩
       (try clear Z5)
       (try clear HO10)
       (try clear BK4)
       (try clear BK12)
       (try clear HB)
       generalize (w27.setCell ⟨gb12,0,none⟩ (.slice Ao28 t8.length co28)) = w31 at n0_ n1_ n2_ n3_ n4_ ⊢
       have Z5:=n0_
       have HO10:=n1_
       have BK4:=n2_
       have BK12:=n3_
       have HB:=n4_
       clear n0_ n1_ n2_ n3_ n4_
       have n0_:=a0_ (Kd.R_drew Z5.out)
       have n1_:=a0_ (Kd.R_drew HO10.out)
       have n2_:=a0_ (blk_drew BK4.out)
       have n3_:=a0_ (blk_drew BK12.out)
       have n4_:=a0_ (below_drew1 HB.out)
       clear Z5
       clear HO10
       clear BK4
       clear BK12
       clear HB
       have Z5:=n0_
       have HO10:=n1_
       have BK4:=n2_
       have BK12:=n3_
       have HB:=n4_
       clear n0_ n1_ n2_ n3_ n4_
       refine start_ (n:=15) (S:=fun w'=>w'.cell? ⟨gb12,0,none⟩ = some (.slice Ao28 t8.length co28) ∧ w'.cell? ⟨gb4,0,none⟩ = some (.slice Ao8 t1.length co8)) (ds:=[]) #[false,false,false,false,false,false,false,false,false,false,false,false,false,false,false] (by kernel_rfl) rfl rfl ⟨(blk_cell BK12.out 0).trans rfl,(blk_cell BK4.out 0).trans rfl⟩ (fun hHeld=>?_);refine with_tabW laws_FnTreeText.tab8 laws_FnTreeText.bits8 (fun HT_ HW_=>?_)
       generalize w31.drew = w32 at Z5 HO10 BK4 BK12 HB hHeld ⊢
       refine pure_ (i:=0) (N:=some 31) (v:=?_) (a':=?_) #[true,false,false,false,false,false,false,false,false,false,false,false,false,false,false] rfl rfl (any_of HT_.out (by kernel_rfl)) (fun _ _ _ h=>h) (Or.inl ⟨by rfl,?_⟩) ?_ ?_
       rotate_left
       ·intro w'
        go_simp
        with_reducible rfl
       rotate_left
       ·simp only [Act.put,s1_,s2_,s3_,i64_w,i32_w]
        rfl
       refine pure_ (i:=1) (N:=some 32) (v:=?_) (a':=?_) #[true,true,false,false,false,false,false,false,false,false,false,false,false,false,false] rfl rfl (any_of HT_.out (by kernel_rfl)) (fun _ _ _ h=>h) (Or.inl ⟨by rfl,?_⟩) ?_ ?_
       rotate_left
       ·intro w'
        go_simp
        with_reducible rfl
       rotate_left
       ·simp only [Act.put,s1_,s2_,s3_,i64_w,i32_w]
        rfl
       refine take_ (i:=2) (N:=some 33) (v:=?_) (a':=?_) #[true,true,true,false,false,false,false,false,false,false,false,false,false,false,false] rfl rfl (take_ofW HT_.out HW_.out (by kernel_rfl)) (fun _ _ _ h=>h) (Or.inl ⟨by rfl,?_⟩) hHeld ?_ ?_
       rotate_left
       ·rintro w' ⟨s0,s1⟩
        go_simp
        with_reducible rfl
       rotate_left
       ·simp only [Act.put,s1_,s2_,s3_,i64_w,i32_w]
        rfl
       refine take_ (i:=3) (N:=some 34) (v:=?_) (a':=?_) #[true,true,true,true,false,false,false,false,false,false,false,false,false,false,false] rfl rfl (take_ofW HT_.out HW_.out (by kernel_rfl)) (fun _ _ _ h=>h) (Or.inl ⟨by rfl,?_⟩) hHeld ?_ ?_
       rotate_left
       ·rintro w' ⟨s0,s1⟩
        go_simp
        with_reducible rfl
       rotate_left
       ·simp only [Act.put,s1_,s2_,s3_,i64_w,i32_w]
        rfl
       refine one_ (i:=4) (N:=some 35) #[true,true,true,true,true,false,false,false,false,false,false,false,false,false,false] rfl rfl (one_of HT_.out (by kernel_rfl)) (by decide) (fun K hK=>?_)
       refine goes_ Try.func51 (by kernel_rfl) rfl #[.agg #[.slice Ao28 t8.length co28],.agg #[.slice Ao8 t1.length co8]] (by rfl) rfl rfl lm_ ?_
       with_reducible refine (laws_equalTree.calls kj4 _ _ t8 _ _ t1 true _ ?side1 ?side2 ?side3 ?side4 A23.out).mono ?_
       (case side1=>exact cc_ (Kd.R_reads' HO10.out).2.2)
       (case side2=>exact (Kd.R_reads' HO10.out).2.1)
       (case side3=>exact cc_ (Kd.R_reads' Z5.out).2.2)
       (case side4=>exact (Kd.R_reads' Z5.out).2.1)
       rintro e w33 ⟨rfl,hb⟩
       refine ⟨_,rfl,?_⟩
       have n0_:=rb_ Z5 hb
       have n1_:=rb_ HO10 hb
       have n2_:=kb_ BK4 hb
       have n3_:=kb_ BK12 hb
       have n4_:=a0_ (below_step hbw_ hb)
       clear Z5
       clear HO10
       clear BK4
       clear BK12
       clear HB
       have Z5:=n0_
       have HO10:=n1_
       have BK4:=n2_
       have BK12:=n3_
       have HB:=n4_
       clear n0_ n1_ n2_ n3_ n4_
       (try clear hb)
       (try clear hb2)
       (try clear hk)
       (try clear hi)
       refine hK.out _ _ ⟨(blk_cell BK12.out 0).trans rfl,(blk_cell BK4.out 0).trans rfl⟩ (fun hHeld=>?_)
       clear hK K
       refine norm_ (a':=?_) ?_ ?_
       rotate_left
       ·show Act.put _ (some 35) _ = _
        simp only [Act.put,s1_,s2_,s3_,i64_w,i32_w]
        rfl
       refine pure_ (i:=5) (N:=some 36) (v:=?_) (a':=?_) #[true,true,true,true,true,true,false,false,false,false,false,false,false,false,false] rfl rfl (any_of HT_.out (by kernel_rfl)) (fun _ _ _ h=>h) (Or.inl ⟨by rfl,?_⟩) ?_ ?_
       rotate_left
       ·intro w'
        go_simp
        with_reducible rfl
       rotate_left
       ·simp only [Act.put,s1_,s2_,s3_,i64_w,i32_w]
        rfl
       refine pure_ (i:=6) (N:=some 37) (v:=?_) (a':=?_) #[true,true,true,true,true,true,true,false,false,false,false,false,false,false,false] rfl rfl (any_of HT_.out (by kernel_rfl)) (fun _ _ _ h=>h) (Or.inl ⟨by rfl,?_⟩) ?_ ?_
       rotate_left
       ·intro w'
        go_simp
        with_reducible rfl
       rotate_left
       ·simp only [Act.put,s1_,s2_,s3_,i64_w,i32_w]
        rfl
       refine pure_ (i:=7) (N:=some 38) (v:=?_) (a':=?_) #[true,true,true,true,true,true,true,true,false,false,false,false,false,false,false] rfl rfl (any_of HT_.out (by kernel_rfl)) (fun _ _ _ h=>h) (Or.inl ⟨by rfl,?_⟩) ?_ ?_
       rotate_left
       ·intro w'
        go_simp
        with_reducible rfl
       rotate_left
       ·simp only [Act.put,s1_,s2_,s3_,i64_w,i32_w]
        rfl
       refine pure_ (i:=9) (N:=some 40) (v:=?_) (a':=?_) #[true,true,true,true,true,true,true,true,false,true,false,false,false,false,false] rfl rfl (any_of HT_.out (by kernel_rfl)) (fun _ _ _ h=>h) (Or.inl ⟨by rfl,?_⟩) ?_ ?_
       rotate_left
       ·intro w'
        go_simp
        with_reducible rfl
       rotate_left
       ·simp only [Act.put,s1_,s2_,s3_,i64_w,i32_w]
        rfl
       refine take_ (i:=10) (N:=some 41) (v:=?_) (a':=?_) #[true,true,true,true,true,true,true,true,false,true,true,false,false,false,false] rfl rfl (take_ofW HT_.out HW_.out (by kernel_rfl)) (fun _ _ _ h=>h) (Or.inl ⟨by rfl,?_⟩) hHeld ?_ ?_
       rotate_left
       ·rintro w' ⟨s0,s1⟩
        go_simp
        with_reducible rfl
       rotate_left
       ·simp only [Act.put,s1_,s2_,s3_,i64_w,i32_w]
        rfl
       refine pure_ (i:=11) (N:=some 42) (v:=?_) (a':=?_) #[true,true,true,true,true,true,true,true,false,true,true,true,false,false,false] rfl rfl (any_of HT_.out (by kernel_rfl)) (fun _ _ _ h=>h) (Or.inl ⟨by rfl,?_⟩) ?_ ?_
       rotate_left
       ·intro w'
        go_simp
        with_reducible rfl
       rotate_left
       ·simp only [Act.put,s1_,s2_,s3_,i64_w,i32_w]
        rfl
       refine one_ (i:=8) (N:=some 39) #[true,true,true,true,true,true,true,true,true,true,true,true,false,false,false] rfl rfl (one_of HT_.out (by kernel_rfl)) (by decide) (fun K hK=>?_)
       refine goes_ Try.func52 (by kernel_rfl) rfl #[.string t5] (by rfl) rfl rfl lm_ ?_
       with_reducible refine (laws_newlines.calls kj4 t5 t14 _ A25.out).mono ?_
       rintro e w' ⟨rfl,⟨nd,rfl⟩⟩
       refine ⟨_,rfl,?_⟩
       refine hK.out _ _ ⟨(blk_cell BK12.out 0).trans rfl,(blk_cell BK4.out 0).trans rfl⟩ (fun hHeld=>?_)
       clear hK K
       refine norm_ (a':=?_) ?_ ?_
       rotate_left
       ·show Act.put _ (some 39) _ = _
        simp only [Act.put,s1_,s2_,s3_,i64_w,i32_w]
        rfl
       refine pure_ (i:=12) (N:=some 43) (v:=?_) (a':=?_) #[true,true,true,true,true,true,true,true,true,true,true,true,true,false,false] rfl rfl (any_of HT_.out (by kernel_rfl)) (fun _ _ _ h=>h) (Or.inl ⟨by rfl,?_⟩) ?_ ?_
       rotate_left
       ·intro w'
        go_simp
        with_reducible rfl
       rotate_left
       ·simp only [Act.put,s1_,s2_,s3_,i64_w,i32_w]
        rfl
       refine pure_ (i:=13) (N:=some 44) (v:=?_) (a':=?_) #[true,true,true,true,true,true,true,true,true,true,true,true,true,true,false] rfl rfl (any_of HT_.out (by kernel_rfl)) (fun _ _ _ h=>h) (Or.inl ⟨by rfl,?_⟩) ?_ ?_
       rotate_left
       ·intro w'
        go_simp
        with_reducible rfl
       rotate_left
       ·simp only [Act.put,s1_,s2_,s3_,i64_w,i32_w]
        rfl
       refine pure_ (i:=14) (N:=some 2) (v:=?_) (a':=?_) #[true,true,true,true,true,true,true,true,true,true,true,true,true,true,true] rfl rfl (any_of HT_.out (by kernel_rfl)) (fun _ _ _ h=>h) (Or.inl ⟨by rfl,?_⟩) ?_ ?_
       rotate_left
       ·intro w'
        go_simp
        with_reducible rfl
       rotate_left
       ·simp only [Act.put,s1_,s2_,s3_,i64_w,i32_w]
        rfl
       refine done_ (done_of HT_.out (by kernel_rfl)) ?_
       try go_wp2
       go_ret
       exact ⟨by first | rfl | (simp [errW_none,errW_some] <;> rfl) | (simp [*,errW_none,errW_some] <;> rfl),hbw_⟩
      ·replace c24:=Bool.eq_false_iff.mpr c24
       subst c24
       have H1 : (some false) = some r:=by rw [if_neg (show ¬ (false = true) by decide)] at H;exact H
       clear H
       have H:=H1
       clear H1
       obtain rfl:=Option.some.inj H
       try go_wp2_with (first | ((with_reducible refine gate_callee (f:=39) rfl ?_);refine goesL_ (some 28) rfl rfl Try.func39 (by kernel_rfl) rfl #[.string t5] rfl lm_ ?_;(with_reducible refine (impl_ParseTree.calls kj4 t5 t8 true _ A21.out).mono ?_);rintro e w34 ⟨v9,rfl,ho0,hb⟩;refine ⟨_,rfl,?_⟩;have n0_:=a0_ (Kd.R_elder' (rr_ Z5.out) (Kd.R_base ho0) hb);have n1_:=a0_ (Kd.R_lower (Kd.R_new' ho0 (Kd.R_lt (rr_ Z5.out))) (below_size hbw_));have n2_:=kb_ BK4 hb;have n3_:=a0_ (below_step hbw_ hb);clear Z5 BK4 HB;have Z5:=n0_;have HO10:=n1_;have BK4:=n2_;have HB:=n3_;clear n0_ n1_ n2_ n3_;(try clear hb);(try clear ho0)) | ((with_reducible refine gate_dst (N:=5) rfl ?_);(try (refine gate_guard (by rfl) ?_;dsimp only));refine box_event ?hg (N:=5) ?hd (cs:=#[.slice none 0 0]) (t:=25) ?hr ?_;(case hd=>rfl);(case hg=>rfl);(case hr=>first | (go_simp;done) | (go_simp;rfl));intro gb12 hg w35 hbox hb;have n0_:=rb_ Z5 hb;have n1_:=rb_ HO10 hb;have n2_:=kb_ BK4 hb;have n3_:=a0_ (below_step hbw_ hb);have n4_:=a0_ (hbox);have n5_:=a0_ ((by rw [hg];exact (below_size hbw_) : w.heap.size ≤ gb12));have n6_:=a0_ ((by rw [hg];exact (below_size hbw_) : w.heap.size ≤ gb12));have n7_:=a0_ ((by rw [hg];exact Nat.ne_of_lt (blk_lt (bb_ BK4.out)) : gb4 ≠ gb12));have n8_:=a0_ ((by rw [hg];exact Nat.ne_of_gt (blk_lt (bb_ BK4.out)) : gb12 ≠ gb4));clear Z5 HO10;clear BK4 HB;have Z5:=n0_;have HO10:=n1_;have BK4:=n2_;have HB:=n3_;have BK12:=n4_;have GW12:=n5_;have GE12:=n6_;have NB4_12:=n7_;have NB12_4:=n8_;clear n0_ n1_ n2_ n3_ n4_ n5_ n6_ n7_ n8_;clear hb hbox hg;obtain ⟨Ao36,co36,eo36⟩:=Kd.R_slice HO10.out;subst eo36;have hnb37:=NB12_4.out;have hnc37:=NB4_12.out;have hcz38_0 : w35.cell? ⟨gb12,0,none⟩ = some (.slice none 0 0):=(blk_cell BK12.out 0).trans rfl;have hfz38_0:=blk_frozen BK12.out 0))
       have n0_ : Aside0 (Kd.R k125 125 (w35.setCell ⟨gb12,0,none⟩ (.slice Ao36 t8.length co36)) w.heap.size (fun k_=>some k_ ≠ (.slice Ao36 t8.length co36 : Value).ownBlock) (.slice Ao8 t1.length co8) t1):=⟨by (with_reducible repeat (first | apply Kd.R_alloc | apply Kd.R_drewN | apply Kd.R_drew));exact Kd.R_mono (Kd.R_far (p:=⟨gb12,0,none⟩) (Kd.R_types Z5.out BK12.out (by decide)) (fun _ hk=>hk.2) (.slice Ao36 t8.length co36)) (fun _ hk=>hk.1.2)⟩
       have n1_ : Aside0 (Kd.R k125 125 (w35.setCell ⟨gb12,0,none⟩ (.slice Ao36 t8.length co36)) w.heap.size (fun k_=>some k_ ≠ (.slice Ao8 t1.length co8 : Value).ownBlock) (.slice Ao36 t8.length co36) t8):=⟨by (with_reducible repeat (first | apply Kd.R_alloc | apply Kd.R_drewN | apply Kd.R_drew));exact Kd.R_mono (Kd.R_far (p:=⟨gb12,0,none⟩) (Kd.R_types HO10.out BK12.out (by decide)) (fun _ hk=>hk.2) (.slice Ao36 t8.length co36)) (fun _ hk=>hk.1.2)⟩
       have n2_ : Aside0 ((w35.setCell ⟨gb12,0,none⟩ (.slice Ao36 t8.length co36)).heap[gb4]? = some (.cells #[.slice Ao8 t1.length co8] 25 (0,0))):=⟨by (with_reducible repeat (first | refine blk_drewN ?_ _ | refine blk_drew ?_ | refine blk_alloc ?_ _));refine blk_far ?_ NB4_12.out _;(with_reducible repeat (first | refine blk_drewN ?_ _ | refine blk_drew ?_ | refine blk_alloc ?_ _));exact BK4.out⟩
       have n3_ : Aside0 ((w35.setCell ⟨gb12,0,none⟩ (.slice Ao36 t8.length co36)).heap[gb12]? = some (.cells #[.slice Ao36 t8.length co36] 25 (0,0))):=⟨by (with_reducible repeat (first | refine blk_drewN ?_ _ | refine blk_drew ?_ | refine blk_alloc ?_ _));refine blk_put (cs:=#[.slice none 0 0]) ?_ 0 _ rfl;(with_reducible repeat (first | refine blk_drewN ?_ _ | refine blk_drew ?_ | refine blk_alloc ?_ _));exact BK12.out⟩
       have n4_ : Aside0 (Below w.heap.size w (w35.setCell ⟨gb12,0,none⟩ (.slice Ao36 t8.length co36))):=⟨hbw_⟩
       (try clear Z5)
       (try clear HO10)
       (try clear BK4)
       (try clear BK12)
       (try clear HB)
       generalize (w35.setCell ⟨gb12,0,none⟩ (.slice Ao36 t8.length co36)) = w39 at n0_ n1_ n2_ n3_ n4_ ⊢
       have Z5:=n0_
       have HO10:=n1_
       have BK4:=n2_
       have BK12:=n3_
       have HB:=n4_
       clear n0_ n1_ n2_ n3_ n4_
       have n0_:=a0_ (Kd.R_drew Z5.out)
       have n1_:=a0_ (Kd.R_drew HO10.out)
       have n2_:=a0_ (blk_drew BK4.out)
       have n3_:=a0_ (blk_drew BK12.out)
       have n4_:=a0_ (below_drew1 HB.out)
       clear Z5
       clear HO10
       clear BK4
       clear BK12
       clear HB
       have Z5:=n0_
       have HO10:=n1_
       have BK4:=n2_
       have BK12:=n3_
       have HB:=n4_
       clear n0_ n1_ n2_ n3_ n4_
       refine start_ (n:=15) (S:=fun w'=>w'.cell? ⟨gb12,0,none⟩ = some (.slice Ao36 t8.length co36) ∧ w'.cell? ⟨gb4,0,none⟩ = some (.slice Ao8 t1.length co8)) (ds:=[]) #[false,false,false,false,false,false,false,false,false,false,false,false,false,false,false] (by kernel_rfl) rfl rfl ⟨(blk_cell BK12.out 0).trans rfl,(blk_cell BK4.out 0).trans rfl⟩ (fun hHeld=>?_);refine with_tabW laws_FnTreeText.tab8 laws_FnTreeText.bits8 (fun HT_ HW_=>?_)
       generalize w39.drew = w40 at Z5 HO10 BK4 BK12 HB hHeld ⊢
       refine pure_ (i:=0) (N:=some 31) (v:=?_) (a':=?_) #[true,false,false,false,false,false,false,false,false,false,false,false,false,false,false] rfl rfl (any_of HT_.out (by kernel_rfl)) (fun _ _ _ h=>h) (Or.inl ⟨by rfl,?_⟩) ?_ ?_
       rotate_left
       ·intro w'
        go_simp
        with_reducible rfl
       rotate_left
       ·simp only [Act.put,s1_,s2_,s3_,i64_w,i32_w]
        rfl
       refine pure_ (i:=1) (N:=some 32) (v:=?_) (a':=?_) #[true,true,false,false,false,false,false,false,false,false,false,false,false,false,false] rfl rfl (any_of HT_.out (by kernel_rfl)) (fun _ _ _ h=>h) (Or.inl ⟨by rfl,?_⟩) ?_ ?_
       rotate_left
       ·intro w'
        go_simp
        with_reducible rfl
       rotate_left
       ·simp only [Act.put,s1_,s2_,s3_,i64_w,i32_w]
        rfl
       refine take_ (i:=2) (N:=some 33) (v:=?_) (a':=?_) #[true,true,true,false,false,false,false,false,false,false,false,false,false,false,false] rfl rfl (take_ofW HT_.out HW_.out (by kernel_rfl)) (fun _ _ _ h=>h) (Or.inl ⟨by rfl,?_⟩) hHeld ?_ ?_
       rotate_left
       ·rintro w' ⟨s0,s1⟩
        go_simp
        with_reducible rfl
       rotate_left
       ·simp only [Act.put,s1_,s2_,s3_,i64_w,i32_w]
        rfl
       refine take_ (i:=3) (N:=some 34) (v:=?_) (a':=?_) #[true,true,true,true,false,false,false,false,false,false,false,false,false,false,false] rfl rfl (take_ofW HT_.out HW_.out (by kernel_rfl)) (fun _ _ _ h=>h) (Or.inl ⟨by rfl,?_⟩) hHeld ?_ ?_
       rotate_left
       ·rintro w' ⟨s0,s1⟩
        go_simp
        with_reducible rfl
       rotate_left
       ·simp only [Act.put,s1_,s2_,s3_,i64_w,i32_w]
        rfl
       refine one_ (i:=4) (N:=some 35) #[true,true,true,true,true,false,false,false,false,false,false,false,false,false,false] rfl rfl (one_of HT_.out (by kernel_rfl)) (by decide) (fun K hK=>?_)
       refine goes_ Try.func51 (by kernel_rfl) rfl #[.agg #[.slice Ao36 t8.length co36],.agg #[.slice Ao8 t1.length co8]] (by rfl) rfl rfl lm_ ?_
       with_reducible refine (laws_equalTree.calls kj4 _ _ t8 _ _ t1 false _ ?side1 ?side2 ?side3 ?side4 A23.out).mono ?_
       (case side1=>exact cc_ (Kd.R_reads' HO10.out).2.2)
       (case side2=>exact (Kd.R_reads' HO10.out).2.1)
       (case side3=>exact cc_ (Kd.R_reads' Z5.out).2.2)
       (case side4=>exact (Kd.R_reads' Z5.out).2.1)
       rintro e w41 ⟨rfl,hb⟩
       refine ⟨_,rfl,?_⟩
       have n0_:=rb_ Z5 hb
       have n1_:=rb_ HO10 hb
       have n2_:=kb_ BK4 hb
       have n3_:=kb_ BK12 hb
       have n4_:=a0_ (below_step hbw_ hb)
       clear Z5
       clear HO10
       clear BK4
       clear BK12
       clear HB
       have Z5:=n0_
       have HO10:=n1_
       have BK4:=n2_
       have BK12:=n3_
       have HB:=n4_
       clear n0_ n1_ n2_ n3_ n4_
       (try clear hb)
       (try clear hb2)
       (try clear hk)
       (try clear hi)
       refine hK.out _ _ ⟨(blk_cell BK12.out 0).trans rfl,(blk_cell BK4.out 0).trans rfl⟩ (fun hHeld=>?_)
       clear hK K
       refine norm_ (a':=?_) ?_ ?_
       rotate_left
       ·show Act.put _ (some 35) _ = _
        simp only [Act.put,s1_,s2_,s3_,i64_w,i32_w]
        rfl
       refine pure_ (i:=5) (N:=some 36) (v:=?_) (a':=?_) #[true,true,true,true,true,true,false,false,false,false,false,false,false,false,false] rfl rfl (any_of HT_.out (by kernel_rfl)) (fun _ _ _ h=>h) (Or.inl ⟨by rfl,?_⟩) ?_ ?_
       rotate_left
       ·intro w'
        go_simp
        with_reducible rfl
       rotate_left
       ·simp only [Act.put,s1_,s2_,s3_,i64_w,i32_w]
        rfl
       refine pure_ (i:=6) (N:=some 37) (v:=?_) (a':=?_) #[true,true,true,true,true,true,true,false,false,false,false,false,false,false,false] rfl rfl (any_of HT_.out (by kernel_rfl)) (fun _ _ _ h=>h) (Or.inl ⟨by rfl,?_⟩) ?_ ?_
       rotate_left
       ·intro w'
        go_simp
        with_reducible rfl
       rotate_left
       ·simp only [Act.put,s1_,s2_,s3_,i64_w,i32_w]
        rfl
       refine pure_ (i:=7) (N:=some 38) (v:=undef) (a':=?_) #[true,true,true,true,true,true,true,true,false,false,false,false,false,false,false] rfl rfl (any_of HT_.out (by kernel_rfl)) (fun _ _ _ h=>h) (Or.inr ⟨by rfl,rfl⟩) ?_ ?_
       rotate_left
       ·simp only [Act.put,s1_,s2_,s3_,i64_w,i32_w]
        rfl
       refine pure_ (i:=8) (N:=some 39) (v:=undef) (a':=?_) #[true,true,true,true,true,true,true,true,true,false,false,false,false,false,false] rfl rfl (any_of HT_.out (by kernel_rfl)) (fun _ _ _ h=>h) (Or.inr ⟨by rfl,rfl⟩) ?_ ?_
       rotate_left
       ·simp only [Act.put,s1_,s2_,s3_,i64_w,i32_w]
        rfl
       refine pure_ (i:=9) (N:=some 40) (v:=undef) (a':=?_) #[true,true,true,true,true,true,true,true,true,true,false,false,false,false,false] rfl rfl (any_of HT_.out (by kernel_rfl)) (fun _ _ _ h=>h) (Or.inr ⟨by rfl,rfl⟩) ?_ ?_
       rotate_left
       ·simp only [Act.put,s1_,s2_,s3_,i64_w,i32_w]
        rfl
       refine pure_ (i:=10) (N:=some 41) (v:=undef) (a':=?_) #[true,true,true,true,true,true,true,true,true,true,true,false,false,false,false] rfl rfl (any_of HT_.out (by kernel_rfl)) (fun _ _ _ h=>h) (Or.inr ⟨by rfl,rfl⟩) ?_ ?_
       rotate_left
       ·simp only [Act.put,s1_,s2_,s3_,i64_w,i32_w]
        rfl
       refine pure_ (i:=11) (N:=some 42) (v:=undef) (a':=?_) #[true,true,true,true,true,true,true,true,true,true,true,true,false,false,false] rfl rfl (any_of HT_.out (by kernel_rfl)) (fun _ _ _ h=>h) (Or.inr ⟨by rfl,rfl⟩) ?_ ?_
       rotate_left
       ·simp only [Act.put,s1_,s2_,s3_,i64_w,i32_w]
        rfl
       refine pure_ (i:=12) (N:=some 43) (v:=undef) (a':=?_) #[true,true,true,true,true,true,true,true,true,true,true,true,true,false,false] rfl rfl (any_of HT_.out (by kernel_rfl)) (fun _ _ _ h=>h) (Or.inr ⟨by rfl,rfl⟩) ?_ ?_
       rotate_left
       ·simp only [Act.put,s1_,s2_,s3_,i64_w,i32_w]
        rfl
       refine pure_ (i:=13) (N:=some 44) (v:=?_) (a':=?_) #[true,true,true,true,true,true,true,true,true,true,true,true,true,true,false] rfl rfl (any_of HT_.out (by kernel_rfl)) (fun _ _ _ h=>h) (Or.inl ⟨by rfl,?_⟩) ?_ ?_
       rotate_left
       ·intro w'
        go_simp
        with_reducible rfl
       rotate_left
       ·simp only [Act.put,s1_,s2_,s3_,i64_w,i32_w]
        rfl
       refine pure_ (i:=14) (N:=some 2) (v:=?_) (a':=?_) #[true,true,true,true,true,true,true,true,true,true,true,true,true,true,true] rfl rfl (any_of HT_.out (by kernel_rfl)) (fun _ _ _ h=>h) (Or.inl ⟨by rfl,?_⟩) ?_ ?_
       rotate_left
       ·intro w'
        go_simp
        with_reducible rfl
       rotate_left
       ·simp only [Act.put,s1_,s2_,s3_,i64_w,i32_w]
        rfl
       refine done_ (done_of HT_.out (by kernel_rfl)) ?_
       try go_wp2
       go_ret
       exact ⟨by first | rfl | (simp [errW_none,errW_some] <;> rfl) | (simp [*,errW_none,errW_some] <;> rfl),hbw_⟩
     ·replace c22:=Bool.eq_false_iff.mpr c22
      subst c22
      have H1 : (some false) = some r:=by rw [if_neg (show ¬ (false = true) by decide)] at H;exact H
      clear H
      have H:=H1
      clear H1
      obtain rfl:=Option.some.inj H
      try go_wp2_with (first | ((with_reducible refine gate_callee (f:=39) rfl ?_);refine goesL_ (some 28) rfl rfl Try.func39 (by kernel_rfl) rfl #[.string t5] rfl lm_ ?_;(with_reducible refine (impl_ParseTree.calls kj4 t5 t8 false _ A21.out).mono ?_);rintro e w42 ⟨v9,rfl,ho0,hb⟩;refine ⟨_,rfl,?_⟩;have n0_:=a0_ (Kd.R_elder' (rr_ Z5.out) (Kd.R_base ho0) hb);have n1_:=a0_ (Kd.R_lower (Kd.R_new' ho0 (Kd.R_lt (rr_ Z5.out))) (below_size hbw_));have n2_:=kb_ BK4 hb;have n3_:=a0_ (below_step hbw_ hb);clear Z5 BK4 HB;have Z5:=n0_;have HO10:=n1_;have BK4:=n2_;have HB:=n3_;clear n0_ n1_ n2_ n3_;(try clear hb);(try clear ho0)) | ((with_reducible refine gate_dst (N:=5) rfl ?_);(try (refine gate_guard (by rfl) ?_;dsimp only));refine box_event ?hg (N:=5) ?hd (cs:=#[.slice none 0 0]) (t:=25) ?hr ?_;(case hd=>rfl);(case hg=>rfl);(case hr=>first | (go_simp;done) | (go_simp;rfl));intro gb12 hg w43 hbox hb;have n0_:=rb_ Z5 hb;have n1_:=rb_ HO10 hb;have n2_:=kb_ BK4 hb;have n3_:=a0_ (below_step hbw_ hb);have n4_:=a0_ (hbox);have n5_:=a0_ ((by rw [hg];exact (below_size hbw_) : w.heap.size ≤ gb12));have n6_:=a0_ ((by rw [hg];exact (below_size hbw_) : w.heap.size ≤ gb12));have n7_:=a0_ ((by rw [hg];exact Nat.ne_of_lt (blk_lt (bb_ BK4.out)) : gb4 ≠ gb12));have n8_:=a0_ ((by rw [hg];exact Nat.ne_of_gt (blk_lt (bb_ BK4.out)) : gb12 ≠ gb4));clear Z5 HO10;clear BK4 HB;have Z5:=n0_;have HO10:=n1_;have BK4:=n2_;have HB:=n3_;have BK12:=n4_;have GW12:=n5_;have GE12:=n6_;have NB4_12:=n7_;have NB12_4:=n8_;clear n0_ n1_ n2_ n3_ n4_ n5_ n6_ n7_ n8_;clear hb hbox hg;obtain ⟨Ao44,co44,eo44⟩:=Kd.R_slice HO10.out;subst eo44;have hnb45:=NB12_4.out;have hnc45:=NB4_12.out;have hcz46_0 : w43.cell? ⟨gb12,0,none⟩ = some (.slice none 0 0):=(blk_cell BK12.out 0).trans rfl;have hfz46_0:=blk_frozen BK12.out 0))
      have n0_ : Aside0 (Kd.R k125 125 (w43.setCell ⟨gb12,0,none⟩ (.slice Ao44 t8.length co44)) w.heap.size (fun k_=>some k_ ≠ (.slice Ao44 t8.length co44 : Value).ownBlock) (.slice Ao8 t1.length co8) t1):=⟨by (with_reducible repeat (first | apply Kd.R_alloc | apply Kd.R_drewN | apply Kd.R_drew));exact Kd.R_mono (Kd.R_far (p:=⟨gb12,0,none⟩) (Kd.R_types Z5.out BK12.out (by decide)) (fun _ hk=>hk.2) (.slice Ao44 t8.length co44)) (fun _ hk=>hk.1.2)⟩
      have n1_ : Aside0 (Kd.R k125 125 (w43.setCell ⟨gb12,0,none⟩ (.slice Ao44 t8.length co44)) w.heap.size (fun k_=>some k_ ≠ (.slice Ao8 t1.length co8 : Value).ownBlock) (.slice Ao44 t8.length co44) t8):=⟨by (with_reducible repeat (first | apply Kd.R_alloc | apply Kd.R_drewN | apply Kd.R_drew));exact Kd.R_mono (Kd.R_far (p:=⟨gb12,0,none⟩) (Kd.R_types HO10.out BK12.out (by decide)) (fun _ hk=>hk.2) (.slice Ao44 t8.length co44)) (fun _ hk=>hk.1.2)⟩
      have n2_ : Aside0 ((w43.setCell ⟨gb12,0,none⟩ (.slice Ao44 t8.length co44)).heap[gb4]? = some (.cells #[.slice Ao8 t1.length co8] 25 (0,0))):=⟨by (with_reducible repeat (first | refine blk_drewN ?_ _ | refine blk_drew ?_ | refine blk_alloc ?_ _));refine blk_far ?_ NB4_12.out _;(with_reducible repeat (first | refine blk_drewN ?_ _ | refine blk_drew ?_ | refine blk_alloc ?_ _));exact BK4.out⟩
      have n3_ : Aside0 ((w43.setCell ⟨gb12,0,none⟩ (.slice Ao44 t8.length co44)).heap[gb12]? = some (.cells #[.slice Ao44 t8.length co44] 25 (0,0))):=⟨by (with_reducible repeat (first | refine blk_drewN ?_ _ | refine blk_drew ?_ | refine blk_alloc ?_ _));refine blk_put (cs:=#[.slice none 0 0]) ?_ 0 _ rfl;(with_reducible repeat (first | refine blk_drewN ?_ _ | refine blk_drew ?_ | refine blk_alloc ?_ _));exact BK12.out⟩
      have n4_ : Aside0 (Below w.heap.size w (w43.setCell ⟨gb12,0,none⟩ (.slice Ao44 t8.length co44))):=⟨hbw_⟩
      (try clear Z5)
      (try clear HO10)
      (try clear BK4)
      (try clear BK12)
      (try clear HB)
      generalize (w43.setCell ⟨gb12,0,none⟩ (.slice Ao44 t8.length co44)) = w47 at n0_ n1_ n2_ n3_ n4_ ⊢
      have Z5:=n0_
      have HO10:=n1_
      have BK4:=n2_
      have BK12:=n3_
      have HB:=n4_
      clear n0_ n1_ n2_ n3_ n4_
      have n0_:=a0_ (Kd.R_drew Z5.out)
      have n1_:=a0_ (Kd.R_drew HO10.out)
      have n2_:=a0_ (blk_drew BK4.out)
      have n3_:=a0_ (blk_drew BK12.out)
      have n4_:=a0_ (below_drew1 HB.out)
      clear Z5
      clear HO10
      clear BK4
      clear BK12
      clear HB
      have Z5:=n0_
      have HO10:=n1_
      have BK4:=n2_
      have BK12:=n3_
      have HB:=n4_
      clear n0_ n1_ n2_ n3_ n4_
      refine start_ (n:=15) (S:=fun w'=>True) (ds:=[]) #[false,false,false,false,false,false,false,false,false,false,false,false,false,false,false] (by kernel_rfl) rfl rfl trivial (fun hHeld=>?_);refine with_tabW laws_FnTreeText.tab8 laws_FnTreeText.bits8 (fun HT_ HW_=>?_)
      generalize w47.drew = w48 at Z5 HO10 BK4 BK12 HB hHeld ⊢
      refine pure_ (i:=0) (N:=some 31) (v:=?_) (a':=?_) #[true,false,false,false,false,false,false,false,false,false,false,false,false,false,false] rfl rfl (any_of HT_.out (by kernel_rfl)) (fun _ _ _ h=>h) (Or.inl ⟨by rfl,?_⟩) ?_ ?_
      rotate_left
      ·intro w'
       go_simp
       with_reducible rfl
      rotate_left
      ·simp only [Act.put,s1_,s2_,s3_,i64_w,i32_w]
       rfl
      refine pure_ (i:=1) (N:=some 32) (v:=?_) (a':=?_) #[true,true,false,false,false,false,false,false,false,false,false,false,false,false,false] rfl rfl (any_of HT_.out (by kernel_rfl)) (fun _ _ _ h=>h) (Or.inl ⟨by rfl,?_⟩) ?_ ?_
      rotate_left
      ·intro w'
       go_simp
       with_reducible rfl
      rotate_left
      ·simp only [Act.put,s1_,s2_,s3_,i64_w,i32_w]
       rfl
      refine pure_ (i:=2) (N:=some 33) (v:=undef) (a':=?_) #[true,true,true,false,false,false,false,false,false,false,false,false,false,false,false] rfl rfl (any_of HT_.out (by kernel_rfl)) (fun _ _ _ h=>h) (Or.inr ⟨by rfl,rfl⟩) ?_ ?_
      rotate_left
      ·simp only [Act.put,s1_,s2_,s3_,i64_w,i32_w]
       rfl
      refine pure_ (i:=3) (N:=some 34) (v:=undef) (a':=?_) #[true,true,true,true,false,false,false,false,false,false,false,false,false,false,false] rfl rfl (any_of HT_.out (by kernel_rfl)) (fun _ _ _ h=>h) (Or.inr ⟨by rfl,rfl⟩) ?_ ?_
      rotate_left
      ·simp only [Act.put,s1_,s2_,s3_,i64_w,i32_w]
       rfl
      refine pure_ (i:=4) (N:=some 35) (v:=undef) (a':=?_) #[true,true,true,true,true,false,false,false,false,false,false,false,false,false,false] rfl rfl (any_of HT_.out (by kernel_rfl)) (fun _ _ _ h=>h) (Or.inr ⟨by rfl,rfl⟩) ?_ ?_
      rotate_left
      ·simp only [Act.put,s1_,s2_,s3_,i64_w,i32_w]
       rfl
      refine pure_ (i:=5) (N:=some 36) (v:=?_) (a':=?_) #[true,true,true,true,true,true,false,false,false,false,false,false,false,false,false] rfl rfl (any_of HT_.out (by kernel_rfl)) (fun _ _ _ h=>h) (Or.inl ⟨by rfl,?_⟩) ?_ ?_
      rotate_left
      ·intro w'
       go_simp
       with_reducible rfl
      rotate_left
      ·simp only [Act.put,s1_,s2_,s3_,i64_w,i32_w]
       rfl
      refine pure_ (i:=6) (N:=some 37) (v:=?_) (a':=?_) #[true,true,true,true,true,true,true,false,false,false,false,false,false,false,false] rfl rfl (any_of HT_.out (by kernel_rfl)) (fun _ _ _ h=>h) (Or.inl ⟨by rfl,?_⟩) ?_ ?_
      rotate_left
      ·intro w'
       go_simp
       with_reducible rfl
      rotate_left
      ·simp only [Act.put,s1_,s2_,s3_,i64_w,i32_w]
       rfl
      refine pure_ (i:=7) (N:=some 38) (v:=undef) (a':=?_) #[true,true,true,true,true,true,true,true,false,false,false,false,false,false,false] rfl rfl (any_of HT_.out (by kernel_rfl)) (fun _ _ _ h=>h) (Or.inr ⟨by rfl,rfl⟩) ?_ ?_
      rotate_left
      ·simp only [Act.put,s1_,s2_,s3_,i64_w,i32_w]
       rfl
      refine pure_ (i:=8) (N:=some 39) (v:=undef) (a':=?_) #[true,true,true,true,true,true,true,true,true,false,false,false,false,false,false] rfl rfl (any_of HT_.out (by kernel_rfl)) (fun _ _ _ h=>h) (Or.inr ⟨by rfl,rfl⟩) ?_ ?_
      rotate_left
      ·simp only [Act.put,s1_,s2_,s3_,i64_w,i32_w]
       rfl
      refine pure_ (i:=9) (N:=some 40) (v:=undef) (a':=?_) #[true,true,true,true,true,true,true,true,true,true,false,false,false,false,false] rfl rfl (any_of HT_.out (by kernel_rfl)) (fun _ _ _ h=>h) (Or.inr ⟨by rfl,rfl⟩) ?_ ?_
      rotate_left
      ·simp only [Act.put,s1_,s2_,s3_,i64_w,i32_w]
       rfl
      refine pure_ (i:=10) (N:=some 41) (v:=undef) (a':=?_) #[true,true,true,true,true,true,true,true,true,true,true,false,false,false,false] rfl rfl (any_of HT_.out (by kernel_rfl)) (fun _ _ _ h=>h) (Or.inr ⟨by rfl,rfl⟩) ?_ ?_
      rotate_left
      ·simp only [Act.put,s1_,s2_,s3_,i64_w,i32_w]
       rfl
      refine pure_ (i:=11) (N:=some 42) (v:=undef) (a':=?_) #[true,true,true,true,true,true,true,true,true,true,true,true,false,false,false] rfl rfl (any_of HT_.out (by kernel_rfl)) (fun _ _ _ h=>h) (Or.inr ⟨by rfl,rfl⟩) ?_ ?_
      rotate_left
      ·simp only [Act.put,s1_,s2_,s3_,i64_w,i32_w]
       rfl
      refine pure_ (i:=12) (N:=some 43) (v:=undef) (a':=?_) #[true,true,true,true,true,true,true,true,true,true,true,true,true,false,false] rfl rfl (any_of HT_.out (by kernel_rfl)) (fun _ _ _ h=>h) (Or.inr ⟨by rfl,rfl⟩) ?_ ?_
      rotate_left
      ·simp only [Act.put,s1_,s2_,s3_,i64_w,i32_w]
       rfl
      refine pure_ (i:=13) (N:=some 44) (v:=?_) (a':=?_) #[true,true,true,true,true,true,true,true,true,true,true,true,true,true,false] rfl rfl (any_of HT_.out (by kernel_rfl)) (fun _ _ _ h=>h) (Or.inl ⟨by rfl,?_⟩) ?_ ?_
      rotate_left
      ·intro w'
       go_simp
       with_reducible rfl
      rotate_left
      ·simp only [Act.put,s1_,s2_,s3_,i64_w,i32_w]
       rfl
      refine pure_ (i:=14) (N:=some 2) (v:=?_) (a':=?_) #[true,true,true,true,true,true,true,true,true,true,true,true,true,true,true] rfl rfl (any_of HT_.out (by kernel_rfl)) (fun _ _ _ h=>h) (Or.inl ⟨by rfl,?_⟩) ?_ ?_
      rotate_left
      ·intro w'
       go_simp
       with_reducible rfl
      rotate_left
      ·simp only [Act.put,s1_,s2_,s3_,i64_w,i32_w]
       rfl
      refine done_ (done_of HT_.out (by kernel_rfl)) ?_
      try go_wp2
      go_ret
      exact ⟨by first | rfl | (simp [errW_none,errW_some] <;> rfl) | (simp [*,errW_none,errW_some] <;> rfl),hbw_⟩
def laws_FnTreeText.Pure : Prop:=∀ (l0 : List Int),l0.length ≤ maxLen → l0.length * 1 ≤ 140737488351232 → (∀ x ∈ l0,(Lit.int .u8 x).wf = true) → ∃ k,laws_FnTreeText.f k l0 = some true
theorem laws_FnTreeText.walk (P : laws_FnTreeText.Pure) (a0 : Option Addr) (len0 cap0 : Nat) (z0 : List Int) (w : World) (w0 : (a0 = none ∧ len0 = 0 ∧ cap0 = 0 ∧ z0 = []) ∨ ∃ x,a0 = some x ∧ len0 ≤ cap0 ∧ cap0 ≤ maxLen ∧ z0.length = cap0 ∧ (∀ i,i < z0.length → w.cell? (x.add i) = some (.int .u8 (z0.getD i 0))) ∧ ∀ n ∈ z0,(Lit.int .u8 n).wf = true) (y0 : len0 * 1 ≤ 140737488351232) :
  Calls Try.prog 9 #[.slice a0 len0 cap0] w fun e w'=>e = .returned (.bool true) ∧ Below w.heap.size w w':=by
 obtain ⟨l0,rfl,hr0,hm0,hw0,hc0⟩:=ReadsInt.ofRowC w0
 obtain ⟨k,h⟩:=P l0 hm0 y0 hw0
 refine (laws_FnTreeText.calls k _ _ l0 true w (Kd.C_of_reads (d:=(0 : Int)) (h1:=fun _=>rfl) hr0) hc0 h).mono ?_
 rintro e w' ⟨rfl,hd⟩
 exact ⟨rfl,hd⟩
end Go.Proofs.Ytacgehaipacehaa.P
namespace Go.Proofs.Ytacgehaipacehaa.Pure
open Go.RowKit Go.Proofs.Ytacgehaipacehaa.P
open Go.Proofs.YtacgehaipacehaaW.PrintWords (rd rdOf wrap_succ wrap_pred wrap_in toL_beq idxP)
set_option linter.unusedVariables false
theorem FnTreeText : laws_FnTreeText.Pure:=by
 intro l0 _ _ hw
 refine Ev.out (F:=fun k=>laws_FnTreeText.f k l0) ?_
 unfold laws_FnTreeText.f
 by_cases hbig : (l0.length : Int) > 1048576
 ·exact Ev.pos hbig (Ev.const rfl)
 refine Ev.neg hbig ?_
 obtain ⟨t,hd,h8,h7⟩:=spec_DrawTreeText_ev l0 hw
 have hs:=smT_mk h7
 have hI:=impl_TreeText_ev t hs
 have hS:=spec_TreeText_ev t hs
 cases hv : vT t with
 | false =>
  have e : textP t = ByteArray.empty:=by unfold textP;rw [hv,if_neg (by simp)]
  rw [e] at hI hS
  refine Ev.bind hd (Ev.bind (Ev.const hI) (Ev.bind hS (Ev.pos rfl (Ev.succ ?_))))
  simp only [laws_FnTreeText.j0]
  exact Ev.pos (beq_iff_eq.2 (toL_nil.2 rfl)) (Ev.bind hS (Ev.const (by simp)))
 | true =>
  have e : textP t = treeTx t:=by unfold textP;rw [hv,if_pos rfl]
  rw [e] at hI hS
  have hsz:=treeTx_size hv
  have hne : ((treeTx t).toList == ([] : List UInt8)) = false:=by
   refine beq_eq_false_iff_ne.2 (fun h=>?_)
   have:=toL_nil.1 h
   omega
  have hP:=impl_ParseTree_ev (treeTx t) (by omega)
  rw [parP_text hv] at hP
  have hN:=laws_newlines_ev (treeTx t) (by omega)
  rw [count_lines hv] at hN
  refine Ev.bind hd (Ev.bind (Ev.const hI) (Ev.bind hS (Ev.pos rfl ?_)))
  rw [hne]
  refine Ev.succ ?_
  simp only [laws_FnTreeText.j0]
  refine Ev.neg (by simp) ?_
  refine Ev.bind hP ?_
  refine Ev.pos rfl ?_
  refine Ev.bind (laws_equalTree_ev t (by omega)) ?_
  refine Ev.pos rfl ?_
  exact Ev.bind hN (Ev.const (by simp))
end Go.Proofs.Ytacgehaipacehaa.Pure
