/- Texts under the proof of FnValidProgram: helper words, the functions' contracts and the plain laws. No condition. -/
import Derived.Test.YtacgehaipacehaaQFnValidPrograma
import Derived.Test.YtacgehaipacehaaQFnValidProgramb
namespace Go.Proofs.Ytacgehaipacehaa.P
open Go.RowKit Go.Proofs.YtacgehaipacehaaW.PrintWords Go.Proofs.YtacgehaipacehaaW.PrintLast Go.Proofs.YtacgehaipacehaaW.PrintMore
attribute [local go_sem] max2_int min2_int max_two min_two max_three min_three max_four min_four
set_option linter.unusedVariables false
set_option linter.unusedSimpArgs false
def impl_Line_argued.j0 : Nat → Int → Bool → Int → Int → Int → Int → List (S125) → Option (Bool)
 | 0,_,_,_,_,_,_,_=>none
 | k + 1,x6,x7,x2000,x2001,x2002,x2003,x3000=>if x7 = true then ((impl_codeOk.f x2002).bind fun t3=>(if t3 = true then (some (x2003 == 0)) else (some false))) else (if x6 = 2 then ((impl_Tree_has.f x3000 x2002).bind fun t4=>(if t4 = true then ((impl_codeOk.f x2003).bind fun t5=>(some t5)) else (some false))) else (if x6 = 8 then ((impl_Tree_has.f x3000 x2002).bind fun t6=>(if t6 = true then (some (x2003 == 0)) else (some false))) else (if x6 = 11 then ((impl_within.f x2002 0 9).bind fun t7=>(if t7 = true then ((impl_within.f x2003 0 1).bind fun t8=>(some t8)) else (some false))) else (if x6 = 12 then ((impl_within.f x2002 0 3).bind fun t9=>(if t9 = true then (some (x2003 == 0)) else (some false))) else ((impl_within.f x2001 0 12).bind fun t10=>(if t10 = true then (if x2002 = 0 then (some (x2003 == 0)) else (some false)) else (some false)))))))
def impl_Line_argued.f (k : Nat) (a0_0 : Int) (a0_1 : Int) (a0_2 : Int) (a0_3 : Int) (l1_0 : List (S125)) : Option (Bool):=if a0_1 = 1 then (impl_Line_argued.j0 k a0_1 (a0_1 == 1) a0_0 a0_1 a0_2 a0_3 l1_0) else (impl_Line_argued.j0 k a0_1 (a0_1 == 4) a0_0 a0_1 a0_2 a0_3 l1_0)
theorem impl_Line_argued.mono_l : ∀ k,(∀ y0 y1 y2 y3 y4 y5 y6,LeO (impl_Line_argued.j0 k y0 y1 y2 y3 y4 y5 y6) (impl_Line_argued.j0 (k + 1) y0 y1 y2 y3 y4 y5 y6))
 | 0=>fun _ _ _ _ _ _ _ r h=>by simp [impl_Line_argued.j0] at h
 | k + 1=>by
  have ih0:=impl_Line_argued.mono_l k
  ·intro y0 y1 y2 y3 y4 y5 y6
   unfold impl_Line_argued.j0
   repeat' first
   | (with_reducible exact ih0 _ _ _ _ _ _ _)
   | (with_reducible exact LeO.refl _)
   | (with_reducible exact LeO.none _)
   | (with_reducible refine LeO.ite ?_ ?_)
   | (with_reducible refine LeO.bind ?_ (fun _=>?_))
theorem impl_Line_argued.mono : ∀ a0 a1 a2 a3 a4 k,LeO (impl_Line_argued.f k a0 a1 a2 a3 a4) (impl_Line_argued.f (k + 1) a0 a1 a2 a3 a4):=by
 intro a0 a1 a2 a3 a4 k
 have ih0:=impl_Line_argued.mono_l k
 unfold impl_Line_argued.f
 repeat' first
   | (with_reducible exact ih0 _ _ _ _ _ _ _)
   | (with_reducible exact LeO.refl _)
   | (with_reducible exact LeO.none _)
   | (with_reducible refine LeO.ite ?_ ?_)
   | (with_reducible refine LeO.bind ?_ (fun _=>?_))
set_option maxHeartbeats 8000000 in
set_option maxRecDepth 100000 in
theorem impl_Line_argued.calls (k : Nat) (a0_0 : Int) (a0_1 : Int) (a0_2 : Int) (a0_3 : Int) (A1_0 : Option Addr) (c1_0 : Nat) (l1_0 : List (S125)) (r : Bool) (w : World) (hr1_0 : Kd.C k125 w A1_0 l1_0.length l1_0) (hc1_0 : l1_0.length ≤ c1_0) (h : impl_Line_argued.f k a0_0 a0_1 a0_2 a0_3 l1_0 = some r) :
  Calls Try.prog 98 #[.agg #[.int .i64 a0_0,.int .i64 a0_1,.int .i64 a0_2,.int .i64 a0_3],.agg #[.slice A1_0 l1_0.length c1_0]] w fun e w'=>e = .returned (.bool r) ∧ Below w.heap.size w w':=by
 have hu75:=Try.underlying75;have hu25:=Try.underlying25;have HR1_0:=a0_ hr1_0;have HC1_0:=a0_ hc1_0;clear hr1_0 hc1_0;have HB:=a0_ (Below.refl w.heap.size w);have H : (if a0_1 = 1 then (impl_Line_argued.j0 k a0_1 (a0_1 == 1) a0_0 a0_1 a0_2 a0_3 l1_0) else (impl_Line_argued.j0 k a0_1 (a0_1 == 4) a0_0 a0_1 a0_2 a0_3 l1_0)) = some r:=h;clear h;have HC3:=a0_ H;clear H;go_enter Try.func98,Try.ntmps98;go_upto_if 7 with (first | ((with_reducible refine gate_dst (N:=2) rfl ?_);refine box_event ?hg (N:=2) ?hd (cs:=#[.int .i64 a0_0,.int .i64 a0_1,.int .i64 a0_2,.int .i64 a0_3]) (t:=75) ?hr ?_;(case hd=>rfl);(case hg=>rfl);(case hr=>first | (go_simp;done) | (go_simp;rfl));intro gb1 hg w4 hbox hb;have BK1:=a0_ (hbox);have GW1:=a0_ ((by rw [hg];exact (below_size hbw_) : w.heap.size ≤ gb1));have GE1:=a0_ ((by rw [hg];exact (below_size hbw_) : w.heap.size ≤ gb1));replace HB:=a0_ (below_step hbw_ hb);clear hb hbox hg) | ((with_reducible refine gate_dst (N:=3) rfl ?_);refine box_event ?hg (N:=3) ?hd (cs:=#[.slice A1_0 l1_0.length c1_0]) (t:=25) ?hr ?_;(case hd=>rfl);(case hg=>rfl);(case hr=>first | (go_simp;done) | (go_simp;rfl));intro gb2 hg w5 hbox hb;have n0_:=kb_ BK1 hb;have n1_:=a0_ (below_step hbw_ hb);have n2_:=a0_ (hbox);have n3_:=a0_ ((by rw [hg];exact (below_size hbw_) : w.heap.size ≤ gb2));have n4_:=a0_ ((by rw [hg];exact (below_size hbw_) : w.heap.size ≤ gb2));have n5_:=a0_ ((by rw [hg];exact Nat.ne_of_lt (blk_lt (bb_ BK1.out)) : gb1 ≠ gb2));have n6_:=a0_ ((by rw [hg];exact Nat.ne_of_gt (blk_lt (bb_ BK1.out)) : gb2 ≠ gb1));clear BK1 HB;have BK1:=n0_;have HB:=n1_;have BK2:=n2_;have GW2:=n3_;have GE2:=n4_;have NB1_2:=n5_;have NB2_1:=n6_;clear n0_ n1_ n2_ n3_ n4_ n5_ n6_;clear hb hbox hg;have hnb6:=NB1_2.out;have hnc6:=NB2_1.out;have hcz7_0 : w5.cell? ⟨gb1,0,none⟩ = some (.int .i64 a0_0):=(blk_cell BK1.out 0).trans rfl;have hcz7_1 : w5.cell? ⟨gb1,1,none⟩ = some (.int .i64 a0_1):=(blk_cell BK1.out 1).trans rfl;have hcz7_2 : w5.cell? ⟨gb1,2,none⟩ = some (.int .i64 a0_2):=(blk_cell BK1.out 2).trans rfl;have hcz7_3 : w5.cell? ⟨gb1,3,none⟩ = some (.int .i64 a0_3):=(blk_cell BK1.out 3).trans rfl;have hfz7_0:=blk_frozen BK1.out 0;have hfz7_1:=blk_frozen BK1.out 1;have hfz7_2:=blk_frozen BK1.out 2;have hfz7_3:=blk_frozen BK1.out 3));(try simp only [Act.put,s1_,s2_,s3_]);go_cut [7] (fun v7 wc=>∃ (kq : Nat) (x7_2 : Bool),v7 = .bool x7_2 ∧ Aside0 (impl_Line_argued.j0 kq a0_1 x7_2 a0_0 a0_1 a0_2 a0_3 l1_0 = some r) ∧ Aside0 (kq ≤ k) ∧ Aside0 (wc.heap[gb1]? = some (.cells #[.int .i64 a0_0,.int .i64 a0_1,.int .i64 a0_2,.int .i64 a0_3] 75 (0,0))) ∧ Aside0 (wc.heap[gb2]? = some (.cells #[(.slice A1_0 l1_0.length c1_0)] 25 (0,0))) ∧ Aside0 (Below w.heap.size w wc))
 case first =>
  have H:=HC3.out;clear HC3;by_cases c8 : a0_1 = 1
  ·rw [if_pos c8] at H
   have c8b0 : (a0_1 == 1) = true:=beq_iff_eq.mpr c8;have c8b1 : (a0_1 != 1) = false:=bne_eq_false_iff_eq.mpr c8;clear c8;(first | rw [c8b0] | (simp only [i64_w,i32_w];rw [c8b0]) | skip);have H':=a0_ H;clear H;go_wp2;go_meet
   case rel=>exact ⟨_,((a0_1 == 1)),(by first | rfl | (simp;done) | (simp [*];done)),H',⟨by first | omega | exact Nat.le_refl _⟩,⟨by (with_reducible repeat (first | refine blk_drewN ?_ _ | refine blk_drew ?_ | refine blk_alloc ?_ _));exact BK1.out⟩,⟨by (with_reducible repeat (first | refine blk_drewN ?_ _ | refine blk_drew ?_ | refine blk_alloc ?_ _));exact BK2.out⟩,⟨hbw_⟩⟩
  ·rw [if_neg c8] at H
   have c8b0 : (a0_1 == 1) = false:=beq_eq_false_iff_ne.mpr c8;have c8b1 : (a0_1 != 1) = true:=bne_iff_ne.mpr c8;(first | rw [c8b0] | (simp only [i64_w,i32_w];rw [c8b0]) | skip);have H':=a0_ H;clear H;go_wp2;go_meet
   case rel=>exact ⟨_,((a0_1 == 4)),(by first | rfl | (simp;done) | (simp [*];done)),H',⟨by first | omega | exact Nat.le_refl _⟩,⟨by (with_reducible repeat (first | refine blk_drewN ?_ _ | refine blk_drew ?_ | refine blk_alloc ?_ _));exact BK1.out⟩,⟨by (with_reducible repeat (first | refine blk_drewN ?_ _ | refine blk_drew ?_ | refine blk_alloc ?_ _));exact BK2.out⟩,⟨hbw_⟩⟩
 case rest =>
  clear HC3;(try clear c1);(try clear p2);(try clear c6);(try clear c8);(try clear c8b0);(try clear c8b1);(try clear hcz7_0);(try clear hcz7_1);(try clear hcz7_2);(try clear hcz7_3);(try clear hfz7_0);(try clear hfz7_1);(try clear hfz7_2);(try clear hfz7_3);obtain ⟨kq,x7_2,rfl,HA,HJ2,BK1,BK2,HB⟩:=hcut
  cases kq with
  | zero=>exact absurd HA.out (by simp [impl_Line_argued.j0])
  | succ kj2 =>
   have H:=HA.out;clear HA;simp only [impl_Line_argued.j0] at H;by_cases c9 : x7_2 = true
   ·subst c9
    have H1 : ((impl_codeOk.f a0_2).bind fun t3=>(if t3 = true then (some (a0_3 == 0)) else (some false))) = some r:=by rw [if_pos rfl] at H;exact H
    clear H;have H:=H1;clear H1;replace H:=Option.bind_eq_some_iff.mp H;obtain ⟨t3,A100,H⟩:=H;(try dsimp only at H);have A10:=a0_ A100;clear A100;by_cases c11 : t3 = true
    ·subst c11
     have H1 : (some (a0_3 == 0)) = some r:=by rw [if_pos rfl] at H;exact H
     clear H;have H:=H1;clear H1;obtain rfl:=Option.some.inj H;have hnb12:=NB1_2.out;have hnc12:=NB2_1.out;have hcz13_0 : wc.cell? ⟨gb1,0,none⟩ = some (.int .i64 a0_0):=(blk_cell BK1.out 0).trans rfl;have hcz13_1 : wc.cell? ⟨gb1,1,none⟩ = some (.int .i64 a0_1):=(blk_cell BK1.out 1).trans rfl;have hcz13_2 : wc.cell? ⟨gb1,2,none⟩ = some (.int .i64 a0_2):=(blk_cell BK1.out 2).trans rfl;have hcz13_3 : wc.cell? ⟨gb1,3,none⟩ = some (.int .i64 a0_3):=(blk_cell BK1.out 3).trans rfl;have hfz13_0:=blk_frozen BK1.out 0;have hfz13_1:=blk_frozen BK1.out 1;have hfz13_2:=blk_frozen BK1.out 2;have hfz13_3:=blk_frozen BK1.out 3;go_wp2_with (first | ((with_reducible refine gate_callee (f:=140) rfl ?_);refine goesL_ (some 12) rfl rfl Try.func140 (by kernel_rfl) rfl #[.int .i64 a0_2] rfl lm_ ?_;(with_reducible refine (impl_codeOk.calls a0_2 true _ A10.out).mono ?_);rintro e w' ⟨rfl,⟨nd,rfl⟩⟩;refine ⟨_,rfl,?_⟩));go_ret;exact ⟨by first | rfl | (simp [errW_none,errW_some] <;> rfl) | (simp [*,errW_none,errW_some] <;> rfl),hbw_⟩
    ·replace c11:=Bool.eq_false_iff.mpr c11
     subst c11
     have H1 : (some false) = some r:=by rw [if_neg (show ¬ (false = true) by decide)] at H;exact H
     clear H;have H:=H1;clear H1;obtain rfl:=Option.some.inj H;have hnb14:=NB1_2.out;have hnc14:=NB2_1.out;have hcz15_0 : wc.cell? ⟨gb1,0,none⟩ = some (.int .i64 a0_0):=(blk_cell BK1.out 0).trans rfl;have hcz15_1 : wc.cell? ⟨gb1,1,none⟩ = some (.int .i64 a0_1):=(blk_cell BK1.out 1).trans rfl;have hcz15_2 : wc.cell? ⟨gb1,2,none⟩ = some (.int .i64 a0_2):=(blk_cell BK1.out 2).trans rfl;have hcz15_3 : wc.cell? ⟨gb1,3,none⟩ = some (.int .i64 a0_3):=(blk_cell BK1.out 3).trans rfl;have hfz15_0:=blk_frozen BK1.out 0;have hfz15_1:=blk_frozen BK1.out 1;have hfz15_2:=blk_frozen BK1.out 2;have hfz15_3:=blk_frozen BK1.out 3;go_wp2_with (first | ((with_reducible refine gate_callee (f:=140) rfl ?_);refine goesL_ (some 12) rfl rfl Try.func140 (by kernel_rfl) rfl #[.int .i64 a0_2] rfl lm_ ?_;(with_reducible refine (impl_codeOk.calls a0_2 false _ A10.out).mono ?_);rintro e w' ⟨rfl,⟨nd,rfl⟩⟩;refine ⟨_,rfl,?_⟩));go_ret;exact ⟨by first | rfl | (simp [errW_none,errW_some] <;> rfl) | (simp [*,errW_none,errW_some] <;> rfl),hbw_⟩
   ·replace c9:=Bool.eq_false_iff.mpr c9
    subst c9
    have H1 : (if a0_1 = 2 then ((impl_Tree_has.f l1_0 a0_2).bind fun t4=>(if t4 = true then ((impl_codeOk.f a0_3).bind fun t5=>(some t5)) else (some false))) else (if a0_1 = 8 then ((impl_Tree_has.f l1_0 a0_2).bind fun t6=>(if t6 = true then (some (a0_3 == 0)) else (some false))) else (if a0_1 = 11 then ((impl_within.f a0_2 0 9).bind fun t7=>(if t7 = true then ((impl_within.f a0_3 0 1).bind fun t8=>(some t8)) else (some false))) else (if a0_1 = 12 then ((impl_within.f a0_2 0 3).bind fun t9=>(if t9 = true then (some (a0_3 == 0)) else (some false))) else ((impl_within.f a0_1 0 12).bind fun t10=>(if t10 = true then (if a0_2 = 0 then (some (a0_3 == 0)) else (some false)) else (some false))))))) = some r:=by rw [if_neg (show ¬ (false = true) by decide)] at H;exact H
    clear H;have H:=H1;clear H1;by_cases c16 : a0_1 = 2
    ·rw [if_pos c16] at H
     have c16b0 : (a0_1 == 2) = true:=beq_iff_eq.mpr c16;have c16b1 : (a0_1 != 2) = false:=bne_eq_false_iff_eq.mpr c16;clear c16;replace H:=Option.bind_eq_some_iff.mp H;obtain ⟨t4,A170,H⟩:=H;(try dsimp only at H);have A17:=a0_ A170;clear A170;by_cases c18 : t4 = true
     ·subst c18
      have H1 : ((impl_codeOk.f a0_3).bind fun t5=>(some t5)) = some r:=by rw [if_pos rfl] at H;exact H
      clear H;have H:=H1;clear H1;replace H:=Option.bind_eq_some_iff.mp H;obtain ⟨t5,A190,H⟩:=H;replace H : (some t5) = some r:=H;have A19:=a0_ A190;clear A190;obtain rfl:=Option.some.inj H;have hnb20:=NB2_1.out;have hnc20:=NB1_2.out;have hcz21_0 : wc.cell? ⟨gb2,0,none⟩ = some (.slice A1_0 l1_0.length c1_0):=(blk_cell BK2.out 0).trans rfl;have hfz21_0:=blk_frozen BK2.out 0;have hcz22_0 : wc.cell? ⟨gb1,0,none⟩ = some (.int .i64 a0_0):=(blk_cell BK1.out 0).trans rfl;have hcz22_1 : wc.cell? ⟨gb1,1,none⟩ = some (.int .i64 a0_1):=(blk_cell BK1.out 1).trans rfl;have hcz22_2 : wc.cell? ⟨gb1,2,none⟩ = some (.int .i64 a0_2):=(blk_cell BK1.out 2).trans rfl;have hcz22_3 : wc.cell? ⟨gb1,3,none⟩ = some (.int .i64 a0_3):=(blk_cell BK1.out 3).trans rfl;have hfz22_0:=blk_frozen BK1.out 0;have hfz22_1:=blk_frozen BK1.out 1;have hfz22_2:=blk_frozen BK1.out 2;have hfz22_3:=blk_frozen BK1.out 3;go_wp2_with (first | ((with_reducible refine gate_callee (f:=63) rfl ?_);refine goesL_ (some 23) rfl rfl Try.func63 (by kernel_rfl) rfl #[.agg #[.slice A1_0 l1_0.length c1_0],.int .i64 a0_2] rfl lm_ ?_;(with_reducible refine (impl_Tree_has.calls _ _ l1_0 a0_2 true _ ?side1 ?side2 A17.out).mono ?_);(case side1=>exact cc_ (Kd.C_below HR1_0.out HB.out));(case side2=>exact HC1_0.out);rintro e w23 ⟨rfl,hb⟩;refine ⟨_,rfl,?_⟩;replace BK1:=kb_ BK1 hb;replace BK2:=kb_ BK2 hb;replace HB:=a0_ (below_step hbw_ hb);(try clear hb);have hcz24_0 : w23.cell? ⟨gb1,0,none⟩ = some (.int .i64 a0_0):=(blk_cell BK1.out 0).trans rfl;have hcz24_1 : w23.cell? ⟨gb1,1,none⟩ = some (.int .i64 a0_1):=(blk_cell BK1.out 1).trans rfl;have hcz24_2 : w23.cell? ⟨gb1,2,none⟩ = some (.int .i64 a0_2):=(blk_cell BK1.out 2).trans rfl;have hcz24_3 : w23.cell? ⟨gb1,3,none⟩ = some (.int .i64 a0_3):=(blk_cell BK1.out 3).trans rfl;have hfz24_0:=blk_frozen BK1.out 0;have hfz24_1:=blk_frozen BK1.out 1;have hfz24_2:=blk_frozen BK1.out 2;have hfz24_3:=blk_frozen BK1.out 3) | (go_at_call 140;(with_reducible refine (impl_codeOk.calls a0_3 t5 _ A19.out).mono ?_);rintro e w' ⟨rfl,⟨nd,rfl⟩⟩));go_ret;exact ⟨by first | rfl | (simp [errW_none,errW_some] <;> rfl) | (simp [*,errW_none,errW_some] <;> rfl),hbw_⟩
     ·replace c18:=Bool.eq_false_iff.mpr c18
      subst c18
      have H1 : (some false) = some r:=by rw [if_neg (show ¬ (false = true) by decide)] at H;exact H
      clear H;have H:=H1;clear H1;obtain rfl:=Option.some.inj H;have hnb25:=NB2_1.out;have hnc25:=NB1_2.out;have hcz26_0 : wc.cell? ⟨gb2,0,none⟩ = some (.slice A1_0 l1_0.length c1_0):=(blk_cell BK2.out 0).trans rfl;have hfz26_0:=blk_frozen BK2.out 0;have hcz27_0 : wc.cell? ⟨gb1,0,none⟩ = some (.int .i64 a0_0):=(blk_cell BK1.out 0).trans rfl;have hcz27_1 : wc.cell? ⟨gb1,1,none⟩ = some (.int .i64 a0_1):=(blk_cell BK1.out 1).trans rfl;have hcz27_2 : wc.cell? ⟨gb1,2,none⟩ = some (.int .i64 a0_2):=(blk_cell BK1.out 2).trans rfl;have hcz27_3 : wc.cell? ⟨gb1,3,none⟩ = some (.int .i64 a0_3):=(blk_cell BK1.out 3).trans rfl;have hfz27_0:=blk_frozen BK1.out 0;have hfz27_1:=blk_frozen BK1.out 1;have hfz27_2:=blk_frozen BK1.out 2;have hfz27_3:=blk_frozen BK1.out 3;go_wp2_with (first | ((with_reducible refine gate_callee (f:=63) rfl ?_);refine goesL_ (some 23) rfl rfl Try.func63 (by kernel_rfl) rfl #[.agg #[.slice A1_0 l1_0.length c1_0],.int .i64 a0_2] rfl lm_ ?_;(with_reducible refine (impl_Tree_has.calls _ _ l1_0 a0_2 false _ ?side1 ?side2 A17.out).mono ?_);(case side1=>exact cc_ (Kd.C_below HR1_0.out HB.out));(case side2=>exact HC1_0.out);rintro e w28 ⟨rfl,hb⟩;refine ⟨_,rfl,?_⟩;replace BK1:=kb_ BK1 hb;replace BK2:=kb_ BK2 hb;replace HB:=a0_ (below_step hbw_ hb);(try clear hb);(try clear hb2);(try clear hk);(try clear hi)));go_ret;exact ⟨by first | rfl | (simp [errW_none,errW_some] <;> rfl) | (simp [*,errW_none,errW_some] <;> rfl),hbw_⟩
    ·rw [if_neg c16] at H
     have c16b0 : (a0_1 == 2) = false:=beq_eq_false_iff_ne.mpr c16;have c16b1 : (a0_1 != 2) = true:=bne_iff_ne.mpr c16;by_cases c29 : a0_1 = 8
     ·rw [if_pos c29] at H
      have c29b0 : (a0_1 == 8) = true:=beq_iff_eq.mpr c29;have c29b1 : (a0_1 != 8) = false:=bne_eq_false_iff_eq.mpr c29;clear c29;replace H:=Option.bind_eq_some_iff.mp H;obtain ⟨t6,A300,H⟩:=H;(try dsimp only at H);have A30:=a0_ A300;clear A300;by_cases c31 : t6 = true
      ·subst c31
       have H1 : (some (a0_3 == 0)) = some r:=by rw [if_pos rfl] at H;exact H
       clear H;have H:=H1;clear H1;obtain rfl:=Option.some.inj H;have hnb32:=NB2_1.out;have hnc32:=NB1_2.out;have hcz33_0 : wc.cell? ⟨gb2,0,none⟩ = some (.slice A1_0 l1_0.length c1_0):=(blk_cell BK2.out 0).trans rfl;have hfz33_0:=blk_frozen BK2.out 0;have hcz34_0 : wc.cell? ⟨gb1,0,none⟩ = some (.int .i64 a0_0):=(blk_cell BK1.out 0).trans rfl;have hcz34_1 : wc.cell? ⟨gb1,1,none⟩ = some (.int .i64 a0_1):=(blk_cell BK1.out 1).trans rfl;have hcz34_2 : wc.cell? ⟨gb1,2,none⟩ = some (.int .i64 a0_2):=(blk_cell BK1.out 2).trans rfl;have hcz34_3 : wc.cell? ⟨gb1,3,none⟩ = some (.int .i64 a0_3):=(blk_cell BK1.out 3).trans rfl;have hfz34_0:=blk_frozen BK1.out 0;have hfz34_1:=blk_frozen BK1.out 1;have hfz34_2:=blk_frozen BK1.out 2;have hfz34_3:=blk_frozen BK1.out 3;go_wp2_with (first | ((with_reducible refine gate_callee (f:=63) rfl ?_);refine goesL_ (some 34) rfl rfl Try.func63 (by kernel_rfl) rfl #[.agg #[.slice A1_0 l1_0.length c1_0],.int .i64 a0_2] rfl lm_ ?_;(with_reducible refine (impl_Tree_has.calls _ _ l1_0 a0_2 true _ ?side1 ?side2 A30.out).mono ?_);(case side1=>exact cc_ (Kd.C_below HR1_0.out HB.out));(case side2=>exact HC1_0.out);rintro e w35 ⟨rfl,hb⟩;refine ⟨_,rfl,?_⟩;replace BK1:=kb_ BK1 hb;replace BK2:=kb_ BK2 hb;replace HB:=a0_ (below_step hbw_ hb);(try clear hb);have hcz36_0 : w35.cell? ⟨gb1,0,none⟩ = some (.int .i64 a0_0):=(blk_cell BK1.out 0).trans rfl;have hcz36_1 : w35.cell? ⟨gb1,1,none⟩ = some (.int .i64 a0_1):=(blk_cell BK1.out 1).trans rfl;have hcz36_2 : w35.cell? ⟨gb1,2,none⟩ = some (.int .i64 a0_2):=(blk_cell BK1.out 2).trans rfl;have hcz36_3 : w35.cell? ⟨gb1,3,none⟩ = some (.int .i64 a0_3):=(blk_cell BK1.out 3).trans rfl;have hfz36_0:=blk_frozen BK1.out 0;have hfz36_1:=blk_frozen BK1.out 1;have hfz36_2:=blk_frozen BK1.out 2;have hfz36_3:=blk_frozen BK1.out 3));go_ret;exact ⟨by first | rfl | (simp [errW_none,errW_some] <;> rfl) | (simp [*,errW_none,errW_some] <;> rfl),hbw_⟩
      ·replace c31:=Bool.eq_false_iff.mpr c31
       subst c31
       have H1 : (some false) = some r:=by rw [if_neg (show ¬ (false = true) by decide)] at H;exact H
       clear H;have H:=H1;clear H1;obtain rfl:=Option.some.inj H;have hnb37:=NB2_1.out;have hnc37:=NB1_2.out;have hcz38_0 : wc.cell? ⟨gb2,0,none⟩ = some (.slice A1_0 l1_0.length c1_0):=(blk_cell BK2.out 0).trans rfl;have hfz38_0:=blk_frozen BK2.out 0;have hcz39_0 : wc.cell? ⟨gb1,0,none⟩ = some (.int .i64 a0_0):=(blk_cell BK1.out 0).trans rfl;have hcz39_1 : wc.cell? ⟨gb1,1,none⟩ = some (.int .i64 a0_1):=(blk_cell BK1.out 1).trans rfl;have hcz39_2 : wc.cell? ⟨gb1,2,none⟩ = some (.int .i64 a0_2):=(blk_cell BK1.out 2).trans rfl;have hcz39_3 : wc.cell? ⟨gb1,3,none⟩ = some (.int .i64 a0_3):=(blk_cell BK1.out 3).trans rfl;have hfz39_0:=blk_frozen BK1.out 0;have hfz39_1:=blk_frozen BK1.out 1;have hfz39_2:=blk_frozen BK1.out 2;have hfz39_3:=blk_frozen BK1.out 3;go_wp2_with (first | ((with_reducible refine gate_callee (f:=63) rfl ?_);refine goesL_ (some 34) rfl rfl Try.func63 (by kernel_rfl) rfl #[.agg #[.slice A1_0 l1_0.length c1_0],.int .i64 a0_2] rfl lm_ ?_;(with_reducible refine (impl_Tree_has.calls _ _ l1_0 a0_2 false _ ?side1 ?side2 A30.out).mono ?_);(case side1=>exact cc_ (Kd.C_below HR1_0.out HB.out));(case side2=>exact HC1_0.out);rintro e w40 ⟨rfl,hb⟩;refine ⟨_,rfl,?_⟩;replace BK1:=kb_ BK1 hb;replace BK2:=kb_ BK2 hb;replace HB:=a0_ (below_step hbw_ hb);(try clear hb);(try clear hb2);(try clear hk);(try clear hi)));go_ret;exact ⟨by first | rfl | (simp [errW_none,errW_some] <;> rfl) | (simp [*,errW_none,errW_some] <;> rfl),hbw_⟩
     ·rw [if_neg c29] at H
      have c29b0 : (a0_1 == 8) = false:=beq_eq_false_iff_ne.mpr c29;have c29b1 : (a0_1 != 8) = true:=bne_iff_ne.mpr c29;by_cases c41 : a0_1 = 11
      ·rw [if_pos c41] at H
       have c41b0 : (a0_1 == 11) = true:=beq_iff_eq.mpr c41;have c41b1 : (a0_1 != 11) = false:=bne_eq_false_iff_eq.mpr c41;clear c41;replace H:=Option.bind_eq_some_iff.mp H;obtain ⟨t7,A420,H⟩:=H;(try dsimp only at H);have A42:=a0_ A420;clear A420;by_cases c43 : t7 = true
       ·subst c43
        have H1 : ((impl_within.f a0_3 0 1).bind fun t8=>(some t8)) = some r:=by rw [if_pos rfl] at H;exact H
        clear H;have H:=H1;clear H1;replace H:=Option.bind_eq_some_iff.mp H;obtain ⟨t8,A440,H⟩:=H;replace H : (some t8) = some r:=H;have A44:=a0_ A440;clear A440;obtain rfl:=Option.some.inj H;have hnb45:=NB1_2.out;have hnc45:=NB2_1.out;have hcz46_0 : wc.cell? ⟨gb1,0,none⟩ = some (.int .i64 a0_0):=(blk_cell BK1.out 0).trans rfl;have hcz46_1 : wc.cell? ⟨gb1,1,none⟩ = some (.int .i64 a0_1):=(blk_cell BK1.out 1).trans rfl;have hcz46_2 : wc.cell? ⟨gb1,2,none⟩ = some (.int .i64 a0_2):=(blk_cell BK1.out 2).trans rfl;have hcz46_3 : wc.cell? ⟨gb1,3,none⟩ = some (.int .i64 a0_3):=(blk_cell BK1.out 3).trans rfl;have hfz46_0:=blk_frozen BK1.out 0;have hfz46_1:=blk_frozen BK1.out 1;have hfz46_2:=blk_frozen BK1.out 2;have hfz46_3:=blk_frozen BK1.out 3;go_wp2_with (first | ((with_reducible refine gate_callee (f:=75) rfl ?_);refine goesL_ (some 44) rfl rfl Try.func75 (by kernel_rfl) rfl #[.int .i64 a0_2,.int .i64 0,.int .i64 9] rfl lm_ ?_;(with_reducible refine (impl_within.calls a0_2 0 9 true _ A42.out).mono ?_);rintro e w' ⟨rfl,⟨nd,rfl⟩⟩;refine ⟨_,rfl,?_⟩) | (go_at_call 75;(with_reducible refine (impl_within.calls a0_3 0 1 t8 _ A44.out).mono ?_);rintro e w' ⟨rfl,⟨nd,rfl⟩⟩));go_ret;exact ⟨by first | rfl | (simp [errW_none,errW_some] <;> rfl) | (simp [*,errW_none,errW_some] <;> rfl),hbw_⟩
       ·replace c43:=Bool.eq_false_iff.mpr c43
        subst c43
        have H1 : (some false) = some r:=by rw [if_neg (show ¬ (false = true) by decide)] at H;exact H
        clear H;have H:=H1;clear H1;obtain rfl:=Option.some.inj H;have hnb47:=NB1_2.out;have hnc47:=NB2_1.out;have hcz48_0 : wc.cell? ⟨gb1,0,none⟩ = some (.int .i64 a0_0):=(blk_cell BK1.out 0).trans rfl;have hcz48_1 : wc.cell? ⟨gb1,1,none⟩ = some (.int .i64 a0_1):=(blk_cell BK1.out 1).trans rfl;have hcz48_2 : wc.cell? ⟨gb1,2,none⟩ = some (.int .i64 a0_2):=(blk_cell BK1.out 2).trans rfl;have hcz48_3 : wc.cell? ⟨gb1,3,none⟩ = some (.int .i64 a0_3):=(blk_cell BK1.out 3).trans rfl;have hfz48_0:=blk_frozen BK1.out 0;have hfz48_1:=blk_frozen BK1.out 1;have hfz48_2:=blk_frozen BK1.out 2;have hfz48_3:=blk_frozen BK1.out 3;go_wp2_with (first | ((with_reducible refine gate_callee (f:=75) rfl ?_);refine goesL_ (some 44) rfl rfl Try.func75 (by kernel_rfl) rfl #[.int .i64 a0_2,.int .i64 0,.int .i64 9] rfl lm_ ?_;(with_reducible refine (impl_within.calls a0_2 0 9 false _ A42.out).mono ?_);rintro e w' ⟨rfl,⟨nd,rfl⟩⟩;refine ⟨_,rfl,?_⟩));go_ret;exact ⟨by first | rfl | (simp [errW_none,errW_some] <;> rfl) | (simp [*,errW_none,errW_some] <;> rfl),hbw_⟩
      ·rw [if_neg c41] at H
       have c41b0 : (a0_1 == 11) = false:=beq_eq_false_iff_ne.mpr c41;have c41b1 : (a0_1 != 11) = true:=bne_iff_ne.mpr c41;by_cases c49 : a0_1 = 12
       ·rw [if_pos c49] at H
        have c49b0 : (a0_1 == 12) = true:=beq_iff_eq.mpr c49;have c49b1 : (a0_1 != 12) = false:=bne_eq_false_iff_eq.mpr c49;clear c49;replace H:=Option.bind_eq_some_iff.mp H;obtain ⟨t9,A500,H⟩:=H;(try dsimp only at H);have A50:=a0_ A500;clear A500;by_cases c51 : t9 = true
        ·subst c51
         have H1 : (some (a0_3 == 0)) = some r:=by rw [if_pos rfl] at H;exact H
         clear H;have H:=H1;clear H1;obtain rfl:=Option.some.inj H;have hnb52:=NB1_2.out;have hnc52:=NB2_1.out;have hcz53_0 : wc.cell? ⟨gb1,0,none⟩ = some (.int .i64 a0_0):=(blk_cell BK1.out 0).trans rfl;have hcz53_1 : wc.cell? ⟨gb1,1,none⟩ = some (.int .i64 a0_1):=(blk_cell BK1.out 1).trans rfl;have hcz53_2 : wc.cell? ⟨gb1,2,none⟩ = some (.int .i64 a0_2):=(blk_cell BK1.out 2).trans rfl;have hcz53_3 : wc.cell? ⟨gb1,3,none⟩ = some (.int .i64 a0_3):=(blk_cell BK1.out 3).trans rfl;have hfz53_0:=blk_frozen BK1.out 0;have hfz53_1:=blk_frozen BK1.out 1;have hfz53_2:=blk_frozen BK1.out 2;have hfz53_3:=blk_frozen BK1.out 3;go_wp2_with (first | ((with_reducible refine gate_callee (f:=75) rfl ?_);refine goesL_ (some 54) rfl rfl Try.func75 (by kernel_rfl) rfl #[.int .i64 a0_2,.int .i64 0,.int .i64 3] rfl lm_ ?_;(with_reducible refine (impl_within.calls a0_2 0 3 true _ A50.out).mono ?_);rintro e w' ⟨rfl,⟨nd,rfl⟩⟩;refine ⟨_,rfl,?_⟩));go_ret;exact ⟨by first | rfl | (simp [errW_none,errW_some] <;> rfl) | (simp [*,errW_none,errW_some] <;> rfl),hbw_⟩
        ·replace c51:=Bool.eq_false_iff.mpr c51
         subst c51
         have H1 : (some false) = some r:=by rw [if_neg (show ¬ (false = true) by decide)] at H;exact H
         clear H;have H:=H1;clear H1;obtain rfl:=Option.some.inj H;have hnb54:=NB1_2.out;have hnc54:=NB2_1.out;have hcz55_0 : wc.cell? ⟨gb1,0,none⟩ = some (.int .i64 a0_0):=(blk_cell BK1.out 0).trans rfl;have hcz55_1 : wc.cell? ⟨gb1,1,none⟩ = some (.int .i64 a0_1):=(blk_cell BK1.out 1).trans rfl;have hcz55_2 : wc.cell? ⟨gb1,2,none⟩ = some (.int .i64 a0_2):=(blk_cell BK1.out 2).trans rfl;have hcz55_3 : wc.cell? ⟨gb1,3,none⟩ = some (.int .i64 a0_3):=(blk_cell BK1.out 3).trans rfl;have hfz55_0:=blk_frozen BK1.out 0;have hfz55_1:=blk_frozen BK1.out 1;have hfz55_2:=blk_frozen BK1.out 2;have hfz55_3:=blk_frozen BK1.out 3;go_wp2_with (first | ((with_reducible refine gate_callee (f:=75) rfl ?_);refine goesL_ (some 54) rfl rfl Try.func75 (by kernel_rfl) rfl #[.int .i64 a0_2,.int .i64 0,.int .i64 3] rfl lm_ ?_;(with_reducible refine (impl_within.calls a0_2 0 3 false _ A50.out).mono ?_);rintro e w' ⟨rfl,⟨nd,rfl⟩⟩;refine ⟨_,rfl,?_⟩));go_ret;exact ⟨by first | rfl | (simp [errW_none,errW_some] <;> rfl) | (simp [*,errW_none,errW_some] <;> rfl),hbw_⟩
       ·rw [if_neg c49] at H
        have c49b0 : (a0_1 == 12) = false:=beq_eq_false_iff_ne.mpr c49;have c49b1 : (a0_1 != 12) = true:=bne_iff_ne.mpr c49;replace H:=Option.bind_eq_some_iff.mp H;obtain ⟨t10,A560,H⟩:=H;(try dsimp only at H);have A56:=a0_ A560;clear A560;by_cases c57 : t10 = true
        ·subst c57
         have H1 : (if a0_2 = 0 then (some (a0_3 == 0)) else (some false)) = some r:=by rw [if_pos rfl] at H;exact H
         clear H;have H:=H1;clear H1;by_cases c58 : a0_2 = 0
         ·rw [if_pos c58] at H
          have c58b0 : (a0_2 == 0) = true:=beq_iff_eq.mpr c58;have c58b1 : (a0_2 != 0) = false:=bne_eq_false_iff_eq.mpr c58;clear c58;obtain rfl:=Option.some.inj H;have hnb59:=NB1_2.out;have hnc59:=NB2_1.out;have hcz60_0 : wc.cell? ⟨gb1,0,none⟩ = some (.int .i64 a0_0):=(blk_cell BK1.out 0).trans rfl;have hcz60_1 : wc.cell? ⟨gb1,1,none⟩ = some (.int .i64 a0_1):=(blk_cell BK1.out 1).trans rfl;have hcz60_2 : wc.cell? ⟨gb1,2,none⟩ = some (.int .i64 a0_2):=(blk_cell BK1.out 2).trans rfl;have hcz60_3 : wc.cell? ⟨gb1,3,none⟩ = some (.int .i64 a0_3):=(blk_cell BK1.out 3).trans rfl;have hfz60_0:=blk_frozen BK1.out 0;have hfz60_1:=blk_frozen BK1.out 1;have hfz60_2:=blk_frozen BK1.out 2;have hfz60_3:=blk_frozen BK1.out 3;go_wp2_with (first | ((with_reducible refine gate_callee (f:=75) rfl ?_);refine goesL_ (some 62) rfl rfl Try.func75 (by kernel_rfl) rfl #[.int .i64 a0_1,.int .i64 0,.int .i64 12] rfl lm_ ?_;(with_reducible refine (impl_within.calls a0_1 0 12 true _ A56.out).mono ?_);rintro e w' ⟨rfl,⟨nd,rfl⟩⟩;refine ⟨_,rfl,?_⟩));go_ret;exact ⟨by first | rfl | (simp [errW_none,errW_some] <;> rfl) | (simp [*,errW_none,errW_some] <;> rfl),hbw_⟩
         ·rw [if_neg c58] at H
          have c58b0 : (a0_2 == 0) = false:=beq_eq_false_iff_ne.mpr c58;have c58b1 : (a0_2 != 0) = true:=bne_iff_ne.mpr c58;obtain rfl:=Option.some.inj H;have hnb61:=NB1_2.out;have hnc61:=NB2_1.out;have hcz62_0 : wc.cell? ⟨gb1,0,none⟩ = some (.int .i64 a0_0):=(blk_cell BK1.out 0).trans rfl;have hcz62_1 : wc.cell? ⟨gb1,1,none⟩ = some (.int .i64 a0_1):=(blk_cell BK1.out 1).trans rfl;have hcz62_2 : wc.cell? ⟨gb1,2,none⟩ = some (.int .i64 a0_2):=(blk_cell BK1.out 2).trans rfl;have hcz62_3 : wc.cell? ⟨gb1,3,none⟩ = some (.int .i64 a0_3):=(blk_cell BK1.out 3).trans rfl;have hfz62_0:=blk_frozen BK1.out 0;have hfz62_1:=blk_frozen BK1.out 1;have hfz62_2:=blk_frozen BK1.out 2;have hfz62_3:=blk_frozen BK1.out 3;go_wp2_with (first | ((with_reducible refine gate_callee (f:=75) rfl ?_);refine goesL_ (some 62) rfl rfl Try.func75 (by kernel_rfl) rfl #[.int .i64 a0_1,.int .i64 0,.int .i64 12] rfl lm_ ?_;(with_reducible refine (impl_within.calls a0_1 0 12 true _ A56.out).mono ?_);rintro e w' ⟨rfl,⟨nd,rfl⟩⟩;refine ⟨_,rfl,?_⟩));go_ret;exact ⟨by first | rfl | (simp [errW_none,errW_some] <;> rfl) | (simp [*,errW_none,errW_some] <;> rfl),hbw_⟩
        ·replace c57:=Bool.eq_false_iff.mpr c57
         subst c57
         have H1 : (some false) = some r:=by rw [if_neg (show ¬ (false = true) by decide)] at H;exact H
         clear H;have H:=H1;clear H1;obtain rfl:=Option.some.inj H;have hnb63:=NB1_2.out;have hnc63:=NB2_1.out;have hcz64_0 : wc.cell? ⟨gb1,0,none⟩ = some (.int .i64 a0_0):=(blk_cell BK1.out 0).trans rfl;have hcz64_1 : wc.cell? ⟨gb1,1,none⟩ = some (.int .i64 a0_1):=(blk_cell BK1.out 1).trans rfl;have hcz64_2 : wc.cell? ⟨gb1,2,none⟩ = some (.int .i64 a0_2):=(blk_cell BK1.out 2).trans rfl;have hcz64_3 : wc.cell? ⟨gb1,3,none⟩ = some (.int .i64 a0_3):=(blk_cell BK1.out 3).trans rfl;have hfz64_0:=blk_frozen BK1.out 0;have hfz64_1:=blk_frozen BK1.out 1;have hfz64_2:=blk_frozen BK1.out 2;have hfz64_3:=blk_frozen BK1.out 3;go_wp2_with (first | ((with_reducible refine gate_callee (f:=75) rfl ?_);refine goesL_ (some 62) rfl rfl Try.func75 (by kernel_rfl) rfl #[.int .i64 a0_1,.int .i64 0,.int .i64 12] rfl lm_ ?_;(with_reducible refine (impl_within.calls a0_1 0 12 false _ A56.out).mono ?_);rintro e w' ⟨rfl,⟨nd,rfl⟩⟩;refine ⟨_,rfl,?_⟩));go_ret;exact ⟨by first | rfl | (simp [errW_none,errW_some] <;> rfl) | (simp [*,errW_none,errW_some] <;> rfl),hbw_⟩
theorem impl_Line_argued_ev (t : List Cls) (x : S75) (ht : t.length ≤ 9223372036854775807) : Ev (fun k=>impl_Line_argued.f k x.f0 x.f1 x.f2 x.f3 t) (numOk t x):=by
 have j0 : Ev (fun k=>impl_Line_argued.j0 k x.f1 (decide (x.f1 = 1 ∨ x.f1 = 4)) x.f0 x.f1 x.f2 x.f3 t) (numOk t x):=by
  refine Ev.succ ?_
  simp only [impl_Line_argued.j0]
  by_cases h0 : x.f1 = 1 ∨ x.f1 = 4
  ·rw [show numOk t x = (decide (0 ≤ x.f2) && decide (x.f2 ≤ 99) && (x.f3 == 0)) by rw [numOk,if_pos h0]]
   refine Ev.pos (by simp [h0]) (Ev.bind (Ev.const (impl_codeOk_ev _)) ?_)
   cases hb : (decide (0 ≤ x.f2) && decide (x.f2 ≤ 99))
   ·exact Ev.neg (by simp) (Ev.const (by simp))
   ·exact Ev.pos rfl (Ev.const (by simp))
  refine Ev.neg (by simp [h0]) ?_
  by_cases h1 : x.f1 = 2
  ·rw [show numOk t x = (hasC t x.f2 && (decide (0 ≤ x.f3) && decide (x.f3 ≤ 99))) by rw [numOk,if_neg h0,if_pos h1]]
   refine Ev.pos (by simp [h1]) (Ev.bind (Ev.const (impl_Tree_has_ev t _ ht)) ?_)
   cases hb : hasC t x.f2
   ·exact Ev.neg (by simp) (Ev.const (by simp))
   ·exact Ev.pos rfl (Ev.bind (Ev.const (impl_codeOk_ev _)) (Ev.const (by simp)))
  refine Ev.neg (by simp [h1]) ?_
  by_cases h2 : x.f1 = 8
  ·rw [show numOk t x = (hasC t x.f2 && (x.f3 == 0)) by rw [numOk,if_neg h0,if_neg h1,if_pos h2]]
   refine Ev.pos (by simp [h2]) (Ev.bind (Ev.const (impl_Tree_has_ev t _ ht)) ?_)
   cases hb : hasC t x.f2
   ·exact Ev.neg (by simp) (Ev.const (by simp))
   ·exact Ev.pos rfl (Ev.const (by simp))
  refine Ev.neg (by simp [h2]) ?_
  by_cases h3 : x.f1 = 11
  ·rw [show numOk t x = ((decide (0 ≤ x.f2) && decide (x.f2 ≤ 9)) && (decide (0 ≤ x.f3) && decide (x.f3 ≤ 1))) by rw [numOk,if_neg h0,if_neg h1,if_neg h2,if_pos h3]]
   refine Ev.pos (by simp [h3]) (Ev.bind (Ev.const (impl_within_ev _ _ _)) ?_)
   cases hb : (decide (0 ≤ x.f2) && decide (x.f2 ≤ 9))
   ·exact Ev.neg (by simp) (Ev.const (by simp))
   ·exact Ev.pos rfl (Ev.bind (Ev.const (impl_within_ev _ _ _)) (Ev.const (by simp)))
  refine Ev.neg (by simp [h3]) ?_
  by_cases h4 : x.f1 = 12
  ·rw [show numOk t x = ((decide (0 ≤ x.f2) && decide (x.f2 ≤ 3)) && (x.f3 == 0)) by rw [numOk,if_neg h0,if_neg h1,if_neg h2,if_neg h3,if_pos h4]]
   refine Ev.pos (by simp [h4]) (Ev.bind (Ev.const (impl_within_ev _ _ _)) ?_)
   cases hb : (decide (0 ≤ x.f2) && decide (x.f2 ≤ 3))
   ·exact Ev.neg (by simp) (Ev.const (by simp))
   ·exact Ev.pos rfl (Ev.const (by simp))
  refine Ev.neg (by simp [h4]) ?_
  rw [show numOk t x = ((decide (0 ≤ x.f1) && decide (x.f1 ≤ 10)) && ((x.f2 == 0) && (x.f3 == 0))) by rw [numOk,if_neg h0,if_neg h1,if_neg h2,if_neg h3,if_neg h4]]
  refine Ev.bind (Ev.const (impl_within_ev _ _ _)) ?_
  rw [show decide (x.f1 ≤ 12) = decide (x.f1 ≤ 10) from decide_eq_decide.2 (by omega)]
  cases hb : (decide (0 ≤ x.f1) && decide (x.f1 ≤ 10))
  ·exact Ev.neg (by simp) (Ev.const (by simp))
  ·refine Ev.pos rfl ?_
   by_cases h6 : x.f2 = 0
   ·exact Ev.pos h6 (Ev.const (by simp [h6]))
   ·exact Ev.neg h6 (Ev.const (by simp [h6]))
 unfold impl_Line_argued.f
 by_cases h1 : x.f1 = 1
 ·refine Ev.pos h1 ?_
  rw [show decide (x.f1 = 1 ∨ x.f1 = 4) = (x.f1 == 1) by simp [h1]] at j0
  exact j0
 ·refine Ev.neg h1 ?_
  rw [show decide (x.f1 = 1 ∨ x.f1 = 4) = (x.f1 == 4) by by_cases h4 : x.f1 = 4 <;> simp [h1,h4]] at j0
  exact j0
end Go.Proofs.Ytacgehaipacehaa.P
namespace Go.Proofs.Ytacgehaipacehaa.P
open Go.RowKit Go.Proofs.YtacgehaipacehaaW.PrintWords Go.Proofs.YtacgehaipacehaaW.PrintLast Go.Proofs.YtacgehaipacehaaW.PrintMore
attribute [local go_sem] max2_int min2_int max_two min_two max_three min_three max_four min_four
set_option linter.unusedVariables false
set_option linter.unusedSimpArgs false
def impl_Line_opens.f (a0_0 : Int) (a0_1 : Int) (a0_2 : Int) (a0_3 : Int) : Option (Bool):=(impl_within.f a0_1 7 12).bind fun t2=>(some t2)
set_option maxHeartbeats 8000000 in
set_option maxRecDepth 100000 in
theorem impl_Line_opens.calls (a0_0 : Int) (a0_1 : Int) (a0_2 : Int) (a0_3 : Int) (r : Bool) (w : World) (h : impl_Line_opens.f a0_0 a0_1 a0_2 a0_3 = some r) :
  Calls Try.prog 99 #[.agg #[.int .i64 a0_0,.int .i64 a0_1,.int .i64 a0_2,.int .i64 a0_3]] w fun e w'=>e = .returned (.bool r) ∧ Below w.heap.size w w':=by
 have hu75:=Try.underlying75;have HB:=a0_ (Below.refl w.heap.size w);have H : ((impl_within.f a0_1 7 12).bind fun t2=>(some t2)) = some r:=h;clear h;replace H:=Option.bind_eq_some_iff.mp H;obtain ⟨t2,A20,H⟩:=H;replace H : (some t2) = some r:=H;have A2:=a0_ A20;clear A20;obtain rfl:=Option.some.inj H;go_enter Try.func99,Try.ntmps99;go_wp2_with (first | ((with_reducible refine gate_dst (N:=1) rfl ?_);refine box_event ?hg (N:=1) ?hd (cs:=#[.int .i64 a0_0,.int .i64 a0_1,.int .i64 a0_2,.int .i64 a0_3]) (t:=75) ?hr ?_;(case hd=>rfl);(case hg=>rfl);(case hr=>first | (go_simp;done) | (go_simp;rfl));intro gb1 hg w3 hbox hb;have BK1:=a0_ (hbox);have GW1:=a0_ ((by rw [hg];exact (below_size hbw_) : w.heap.size ≤ gb1));have GE1:=a0_ ((by rw [hg];exact (below_size hbw_) : w.heap.size ≤ gb1));replace HB:=a0_ (below_step hbw_ hb);clear hb hbox hg;have hcz4_0 : w3.cell? ⟨gb1,0,none⟩ = some (.int .i64 a0_0):=(blk_cell BK1.out 0).trans rfl;have hcz4_1 : w3.cell? ⟨gb1,1,none⟩ = some (.int .i64 a0_1):=(blk_cell BK1.out 1).trans rfl;have hcz4_2 : w3.cell? ⟨gb1,2,none⟩ = some (.int .i64 a0_2):=(blk_cell BK1.out 2).trans rfl;have hcz4_3 : w3.cell? ⟨gb1,3,none⟩ = some (.int .i64 a0_3):=(blk_cell BK1.out 3).trans rfl;have hfz4_0:=blk_frozen BK1.out 0;have hfz4_1:=blk_frozen BK1.out 1;have hfz4_2:=blk_frozen BK1.out 2;have hfz4_3:=blk_frozen BK1.out 3) | ((with_reducible refine gate_callee (f:=75) rfl ?_);refine goesL_ (some 5) rfl rfl Try.func75 (by kernel_rfl) rfl #[.int .i64 a0_1,.int .i64 7,.int .i64 12] rfl lm_ ?_;(with_reducible refine (impl_within.calls a0_1 7 12 t2 _ A2.out).mono ?_);rintro e w' ⟨rfl,⟨nd,rfl⟩⟩;refine ⟨_,rfl,?_⟩));go_ret;exact ⟨by first | rfl | (simp [errW_none,errW_some] <;> rfl) | (simp [*,errW_none,errW_some] <;> rfl),hbw_⟩
theorem impl_Line_opens_ev (a b c d : Int) : impl_Line_opens.f a b c d = some (decide (7 ≤ b) && decide (b ≤ 12)):=by
 unfold impl_Line_opens.f
 rw [impl_within_ev]
 rfl
end Go.Proofs.Ytacgehaipacehaa.P
namespace Go.Proofs.Ytacgehaipacehaa.P
open Go.RowKit Go.Proofs.YtacgehaipacehaaW.PrintWords Go.Proofs.YtacgehaipacehaaW.PrintLast Go.Proofs.YtacgehaipacehaaW.PrintMore
attribute [local go_sem] max2_int min2_int max_two min_two max_three min_three max_four min_four
set_option linter.unusedVariables false
set_option linter.unusedSimpArgs false
def impl_siblings.l0 : Nat → List (S75) → Int → List Int → Int → Option (List Int)
 | 0,_,_,_,_=>none
 | k + 1,x0,x2,x7,x8=>if x8 < x2 then (if x7.length < 17592186044416 then ((impl_endOf.f k x0 x8).bind fun t7=>(impl_siblings.l0 k x0 x2 (x7 ++ [x8]) t7)) else (none)) else (some x7)
def impl_siblings.f (k : Nat) (l0 : List (S75)) (a1 : Int) (a2 : Int) : Option (List Int):=impl_siblings.l0 k l0 a2 (([] : List Int)) a1
theorem impl_siblings.mono_l : ∀ k,(∀ y0 y1 y2 y3,LeO (impl_siblings.l0 k y0 y1 y2 y3) (impl_siblings.l0 (k + 1) y0 y1 y2 y3))
 | 0=>fun _ _ _ _ r h=>by simp [impl_siblings.l0] at h
 | k + 1=>by
  have ih0:=impl_siblings.mono_l k
  ·intro y0 y1 y2 y3
   unfold impl_siblings.l0
   repeat' first
   | (with_reducible exact ih0 _ _ _ _)
   | (with_reducible exact impl_endOf.mono _ _ _)
   | (with_reducible exact LeO.refl _)
   | (with_reducible exact LeO.none _)
   | (with_reducible refine LeO.ite ?_ ?_)
   | (with_reducible refine LeO.bind ?_ (fun _=>?_))
theorem impl_siblings.mono : ∀ a0 a1 a2 k,LeO (impl_siblings.f k a0 a1 a2) (impl_siblings.f (k + 1) a0 a1 a2):=by
 intro a0 a1 a2 k
 have ih0:=impl_siblings.mono_l k
 unfold impl_siblings.f
 repeat' first
   | (with_reducible exact ih0 _ _ _ _)
   | (with_reducible exact impl_endOf.mono _ _ _)
   | (with_reducible exact LeO.refl _)
   | (with_reducible exact LeO.none _)
   | (with_reducible refine LeO.ite ?_ ?_)
   | (with_reducible refine LeO.bind ?_ (fun _=>?_))
set_option maxHeartbeats 8000000 in
set_option maxRecDepth 100000 in
theorem impl_siblings.calls (k : Nat) (A0 : Option Addr) (c0 : Nat) (l0 : List (S75)) (a1 : Int) (a2 : Int) (r : List Int) (w : World) (hr0 : Kd.C k75 w A0 l0.length l0) (hc0 : l0.length ≤ c0) (h : impl_siblings.f k l0 a1 a2 = some r) :
  Calls Try.prog 141 #[.slice A0 l0.length c0,.int .i64 a1,.int .i64 a2] w fun e w'=>∃ v0_ : Value,e = .returned (v0_) ∧ Kd.R (Kd.int .i64) 3 w' w.heap.size (fun _=>True) v0_ r ∧ Below w.heap.size w w':=by
 have HR0:=a0_ hr0;have HC0:=a0_ hc0;clear hr0 hc0;have HB:=a0_ (Below.refl w.heap.size w);have H : (impl_siblings.l0 k l0 a2 (([] : List Int)) a1) = some r:=h;clear h;obtain ⟨y1,hy1⟩ : ∃ y_ : List Int,y_ = (([] : List Int)):=⟨_,rfl⟩
 replace H : (impl_siblings.l0 k l0 a2 y1 a1) = some r:=by first | (rw [hy1];with_reducible exact H) | (have H2_:=(Option.bind_some _ _).symm.trans H;rw [hy1];with_reducible exact H2_) | (have H2_:=(Option.bind_some _ _).symm.trans H;with_reducible exact H2_) | with_reducible exact H | (rw [hy1];exact H) | exact H
 have Ny1:=a0_ hy1;clear hy1;have H':=a0_ H;clear H;go_enter Try.func141,Try.ntmps141;go_wp2_with (first | ((with_reducible refine gate_dst (N:=9) rfl ?_);refine Kd.R_lit (Kd.int .i64) _ 3 ?hg (N:=9) ?hd (xs:=([] : List Int)) (inner:=[]) (ok:=fun _=>True) (okp:=fun _=>True) ?hr ?hp (fun _ hk=>hk) trivial (Below.refl _ _) (Nat.le_refl _) (by simp) ?_;(case hd=>rfl);(case hg=>rfl);(case hr=>first | (go_simp;done) | (go_simp;rfl));(case hp=>exact (Reps.none _ _));intro v2 w4 ho5 hb hg_ hnew_;clear hg_ hnew_;(first | rw [← Ny1.out] at ho5 | (simp only [Int.reduceToNat] at ho5;rw [← Ny1.out] at ho5));have HO3:=a0_ (Kd.R_lower ho5 (below_size hbw_));replace HB:=a0_ (below_step hbw_ hb);clear hb ho5));go_loopg [7,8] k (fun kq v7 v8 w'=>∃ (x7_1 : List Int) (x8_1 : Int),v8 = .int .i64 x8_1 ∧ Aside0 (impl_siblings.l0 kq l0 a2 x7_1 x8_1 = some r) ∧ Aside0 (kq ≤ k) ∧ Aside0 (Kd.R (Kd.int .i64) 3 w' w.heap.size (fun _=>True) v7 x7_1) ∧ Aside0 (Below w.heap.size w w'))
 case atStart=>exact ⟨(y1),(a1),(by first | rfl | (simp;done) | (simp [*];done)),H',⟨Nat.le_refl _⟩,⟨by (with_reducible repeat (first | apply Kd.R_alloc | apply Kd.R_drewN | apply Kd.R_drew));exact HO3.out⟩,⟨hbw_⟩⟩
 case round =>
  clear H';(try clear c1);(try clear p2);obtain ⟨x7_1,x8_1,rfl,HA,HK1,HO_7,HB⟩:=hrel
  cases gk with
  | zero=>exact absurd HA.out (by simp [impl_siblings.l0])
  | succ k1 =>
   have H:=HA.out;clear HA;simp only [impl_siblings.l0] at H;by_cases c6 : x8_1 < a2
   ·rw [if_pos c6] at H
    have c6b0 : decide (x8_1 < a2) = true:=decide_eq_true c6;clear c6;by_cases c7 : x7_1.length < 17592186044416
    ·rw [if_pos c7] at H
     have LMc7:=a0_ c7;clear c7;obtain ⟨y4,hy4⟩ : ∃ y_ : List Int,y_ = (x7_1 ++ [x8_1]):=⟨_,rfl⟩
     replace H : ((impl_endOf.f k1 l0 x8_1).bind fun t7=>(impl_siblings.l0 k1 l0 a2 y4 t7)) = some r:=by first | (rw [hy4];with_reducible exact H) | (have H2_:=(Option.bind_some _ _).symm.trans H;rw [hy4];with_reducible exact H2_) | (have H2_:=(Option.bind_some _ _).symm.trans H;with_reducible exact H2_) | with_reducible exact H | (rw [hy4];exact H) | exact H
     have Ny4:=a0_ hy4;clear hy4;replace H:=Option.bind_eq_some_iff.mp H;obtain ⟨t7,A80,H⟩:=H;replace H : (impl_siblings.l0 k1 l0 a2 y4 t7) = some r:=H;have A8:=a0_ A80;clear A80;have H':=a0_ H;clear H;go_wp2_with (first | ((with_reducible refine gate_builtin (b:=.append) (xs:=#[.tmp 17,.tmp 19]) rfl ?_);at_builtin;refine Kd.R_append (Kd.int .i64) (w0:=w) w.heap.size rfl (.tmp 17) (.tmp 19) 26 3 (.int .i64 0) 8 rfl Try.underlying26 info3 rfl (by decide) (by omega) u7 x7_1 x8_1 [.int .i64 x8_1] (fun _=>True) (fun _=>False) rfl rfl ?aP (fun _ hk=>hk.elim) ?aF ?aO ?aB ?aS ?aL ?_;(case aP=>exact rfl);(case aB=>exact hbw_);(case aF=>exact (fun _ _=>trivial));(case aO=>exact (rr_ HO_7.out));(case aS=>exact (below_size hbw_));(case aL=>have:=LMc7.out;omega);intro v5 w9 ho hb hg hat;rw [← Ny4.out] at ho;have HO6:=a0_ (ho);replace HB:=a0_ (hb);clear HO_7;clear ho hb hg hat) | ((with_reducible refine gate_callee (f:=144) rfl ?_);refine goesL_ (some 16) rfl rfl Try.func144 (by kernel_rfl) rfl #[.slice A0 l0.length c0,.int .i64 x8_1] rfl lm_ ?_;(with_reducible refine (impl_endOf.calls k1 _ _ l0 x8_1 t7 _ ?side1 ?side2 A8.out).mono ?_);(case side1=>exact cc_ (Kd.C_below HR0.out HB.out));(case side2=>exact HC0.out);rintro e w' ⟨rfl,⟨nd,rfl⟩⟩;refine ⟨_,rfl,?_⟩));go_roundg k1
     case measure=>have:=HK1.out;omega
     case rel=>exact ⟨(y4),(t7),(by first | rfl | (simp;done) | (simp [*];done)),H',⟨by have:=HK1.out;omega⟩,⟨by (with_reducible repeat (first | apply Kd.R_alloc | apply Kd.R_drewN | apply Kd.R_drew));exact HO6.out⟩,⟨hbw_⟩⟩
    ·rw [if_neg c7] at H
     exact absurd H (by simp)
   ·rw [if_neg c6] at H
    have c6b0 : decide (x8_1 < a2) = false:=decide_eq_false c6;clear c6;obtain rfl:=Option.some.inj H;go_wp2;go_ret;exact ⟨_,by first | rfl | (simp [errW_none,errW_some] <;> rfl) | (simp [*,errW_none,errW_some] <;> rfl),by (with_reducible repeat (first | apply Kd.R_alloc | apply Kd.R_drewN | apply Kd.R_drew));exact HO_7.out,hbw_⟩
theorem impl_siblings_ev (l : List S75) (a t : Nat) (ht : t ≤ l.length) (hl : l.length ≤ 1099511627776) : Ev (fun k=>impl_siblings.f k l (a : Int) (t : Int)) (nI (sib l t a)):=by
 have key : ∀ f (i : Nat) (acc : List Int),t - i ≤ f → acc.length ≤ i → Ev (fun k=>impl_siblings.l0 k l (t : Int) acc (i : Int)) (acc ++ nI (sibN l t f i)):=by
  intro f
  induction f with
  | zero =>
   intro i acc h1 h2
   refine Ev.succ ?_
   simp only [impl_siblings.l0]
   exact Ev.neg (by omega) (Ev.const (by simp [nI,sibN]))
  | succ f ih =>
   intro i acc h1 h2
   have hg:=endN_gt l i
   rw [sibN]
   refine Ev.succ ?_
   simp only [impl_siblings.l0]
   by_cases hi : i < t
   ·rw [if_pos hi]
    have:=ih (endN l i) (acc ++ [(i : Int)]) (by omega) (by rw [List.length_append];simp;omega)
    refine Ev.pos (by omega) (Ev.pos (by omega) (Ev.bind (impl_endOf_ev l _ (by omega) hl) ?_))
    simpa [nI] using this
   ·rw [if_neg hi]
    exact Ev.neg (by omega) (Ev.const (by simp [nI]))
 exact key (t - a) a [] (Nat.le_refl _) (by simp)
end Go.Proofs.Ytacgehaipacehaa.P
namespace Go.Proofs.Ytacgehaipacehaa.P
open Go.RowKit Go.Proofs.YtacgehaipacehaaW.PrintWords Go.Proofs.YtacgehaipacehaaW.PrintLast Go.Proofs.YtacgehaipacehaaW.PrintMore
attribute [local go_sem] max2_int min2_int max_two min_two max_three min_three max_four min_four
set_option linter.unusedVariables false
set_option linter.unusedSimpArgs false
def impl_tryFrom.l0 : Nat → List (S75) → Int → List Int → Int → Option (List Int)
 | 0,_,_,_,_=>none
 | k + 1,x0,x1,x5,x6=>if x6 < (x0.length : Int) then (if 0 ≤ x6 then (if 0 ≤ x1 then (if x1 < (x0.length : Int) then (if ((rd_T75 x0 x6).f0) = ((rd_T75 x0 x1).f0) then ((impl_within.f ((rd_T75 x0 x6).f1) 8 10).bind fun t8=>(if t8 = true then (if x5.length < 17592186044416 then ((impl_endOf.f k x0 x6).bind fun t12=>(impl_tryFrom.l0 k x0 x1 (x5 ++ [x6]) t12)) else (none)) else (some x5))) else (some x5)) else (none)) else (none)) else (none)) else (some x5)
def impl_tryFrom.f (k : Nat) (l0 : List (S75)) (a1 : Int) : Option (List Int):=(impl_endOf.f k l0 a1).bind fun t4=>(impl_tryFrom.l0 k l0 a1 (([a1] : List Int)) t4)
theorem impl_tryFrom.mono_l : ∀ k,(∀ y0 y1 y2 y3,LeO (impl_tryFrom.l0 k y0 y1 y2 y3) (impl_tryFrom.l0 (k + 1) y0 y1 y2 y3))
 | 0=>fun _ _ _ _ r h=>by simp [impl_tryFrom.l0] at h
 | k + 1=>by
  have ih0:=impl_tryFrom.mono_l k
  ·intro y0 y1 y2 y3
   unfold impl_tryFrom.l0
   repeat' first
   | (with_reducible exact ih0 _ _ _ _)
   | (with_reducible exact impl_endOf.mono _ _ _)
   | (with_reducible exact LeO.refl _)
   | (with_reducible exact LeO.none _)
   | (with_reducible refine LeO.ite ?_ ?_)
   | (with_reducible refine LeO.bind ?_ (fun _=>?_))
theorem impl_tryFrom.mono : ∀ a0 a1 k,LeO (impl_tryFrom.f k a0 a1) (impl_tryFrom.f (k + 1) a0 a1):=by
 intro a0 a1 k
 have ih0:=impl_tryFrom.mono_l k
 unfold impl_tryFrom.f
 repeat' first
   | (with_reducible exact ih0 _ _ _ _)
   | (with_reducible exact impl_endOf.mono _ _ _)
   | (with_reducible exact LeO.refl _)
   | (with_reducible exact LeO.none _)
   | (with_reducible refine LeO.ite ?_ ?_)
   | (with_reducible refine LeO.bind ?_ (fun _=>?_))
set_option maxHeartbeats 8000000 in
set_option maxRecDepth 100000 in
theorem impl_tryFrom.calls (k : Nat) (A0 : Option Addr) (c0 : Nat) (l0 : List (S75)) (a1 : Int) (r : List Int) (w : World) (hr0 : Kd.C k75 w A0 l0.length l0) (hc0 : l0.length ≤ c0) (h : impl_tryFrom.f k l0 a1 = some r) :
  Calls Try.prog 142 #[.slice A0 l0.length c0,.int .i64 a1] w fun e w'=>∃ v0_ : Value,e = .returned (v0_) ∧ Kd.R (Kd.int .i64) 3 w' w.heap.size (fun _=>True) v0_ r ∧ Below w.heap.size w w':=by
 have HR0:=a0_ hr0;have HC0:=a0_ hc0;clear hr0 hc0;have HB:=a0_ (Below.refl w.heap.size w);have H : ((impl_endOf.f k l0 a1).bind fun t4=>(impl_tryFrom.l0 k l0 a1 (([a1] : List Int)) t4)) = some r:=h;clear h;obtain ⟨y1,hy1⟩ : ∃ y_ : List Int,y_ = (([a1] : List Int)):=⟨_,rfl⟩
 replace H : ((impl_endOf.f k l0 a1).bind fun t4=>(impl_tryFrom.l0 k l0 a1 y1 t4)) = some r:=by first | (rw [hy1];with_reducible exact H) | (have H2_:=(Option.bind_some _ _).symm.trans H;rw [hy1];with_reducible exact H2_) | (have H2_:=(Option.bind_some _ _).symm.trans H;with_reducible exact H2_) | with_reducible exact H | (rw [hy1];exact H) | exact H
 have Ny1:=a0_ hy1;clear hy1;replace H:=Option.bind_eq_some_iff.mp H;obtain ⟨t4,A30,H⟩:=H;replace H : (impl_tryFrom.l0 k l0 a1 y1 t4) = some r:=H;have A3:=a0_ A30;clear A30;have H':=a0_ H;clear H;go_enter Try.func142,Try.ntmps142;go_wp2_with (first | ((with_reducible refine gate_dst (N:=8) rfl ?_);refine Kd.R_lit (Kd.int .i64) _ 3 ?hg (N:=8) ?hd (xs:=([a1] : List Int)) (inner:=[.int .i64 a1]) (ok:=fun _=>True) (okp:=fun _=>True) ?hr ?hp (fun _ hk=>hk) trivial (Below.refl _ _) (Nat.le_refl _) (by simp) ?_;(case hd=>rfl);(case hg=>rfl);(case hr=>first | (go_simp;done) | (go_simp;rfl));(case hp=>exact (Reps.one (show Kd.M (Kd.int .i64) _ _ _ a1 [.int .i64 a1] from rfl) (Reps.none _ _)));intro v2 w4 ho5 hb hg_ hnew_;clear hg_ hnew_;(first | rw [← Ny1.out] at ho5 | (simp only [Int.reduceToNat] at ho5;rw [← Ny1.out] at ho5));have HO3:=a0_ (Kd.R_lower ho5 (below_size hbw_));replace HB:=a0_ (below_step hbw_ hb);clear hb ho5) | (go_at_call 144;(with_reducible refine (impl_endOf.calls k _ _ l0 a1 t4 _ ?side1 ?side2 A3.out).mono ?_);(case side1=>exact cc_ (Kd.C_below HR0.out HB.out));(case side2=>exact HC0.out);rintro e w' ⟨rfl,⟨nd,rfl⟩⟩;(try first | exact ⟨rfl,_,World.drewN_drewN _ _ _⟩ | exact ⟨rfl,_,Eq.trans (World.drewN_drewN _ _ _) (congrArg (World.drewN _) (Nat.add_assoc _ _ _))⟩)))
 repeat (go_quiet (first | ((with_reducible refine gate_dst (N:=8) rfl ?_);refine Kd.R_lit (Kd.int .i64) _ 3 ?hg (N:=8) ?hd (xs:=([a1] : List Int)) (inner:=[.int .i64 a1]) (ok:=fun _=>True) (okp:=fun _=>True) ?hr ?hp (fun _ hk=>hk) trivial (Below.refl _ _) (Nat.le_refl _) (by simp) ?_;(case hd=>rfl);(case hg=>rfl);(case hr=>first | (go_simp;done) | (go_simp;rfl));(case hp=>exact (Reps.one (show Kd.M (Kd.int .i64) _ _ _ a1 [.int .i64 a1] from rfl) (Reps.none _ _)));intro v2 w4 ho5 hb hg_ hnew_;clear hg_ hnew_;(first | rw [← Ny1.out] at ho5 | (simp only [Int.reduceToNat] at ho5;rw [← Ny1.out] at ho5));have HO3:=a0_ (Kd.R_lower ho5 (below_size hbw_));replace HB:=a0_ (below_step hbw_ hb);clear hb ho5) | (go_at_call 144;(with_reducible refine (impl_endOf.calls k _ _ l0 a1 t4 _ ?side1 ?side2 A3.out).mono ?_);(case side1=>exact cc_ (Kd.C_below HR0.out HB.out));(case side2=>exact HC0.out);rintro e w' ⟨rfl,⟨nd,rfl⟩⟩;(try first | exact ⟨rfl,_,World.drewN_drewN _ _ _⟩ | exact ⟨rfl,_,Eq.trans (World.drewN_drewN _ _ _) (congrArg (World.drewN _) (Nat.add_assoc _ _ _))⟩)));try go_wp2_with (first | ((with_reducible refine gate_dst (N:=8) rfl ?_);refine Kd.R_lit (Kd.int .i64) _ 3 ?hg (N:=8) ?hd (xs:=([a1] : List Int)) (inner:=[.int .i64 a1]) (ok:=fun _=>True) (okp:=fun _=>True) ?hr ?hp (fun _ hk=>hk) trivial (Below.refl _ _) (Nat.le_refl _) (by simp) ?_;(case hd=>rfl);(case hg=>rfl);(case hr=>first | (go_simp;done) | (go_simp;rfl));(case hp=>exact (Reps.one (show Kd.M (Kd.int .i64) _ _ _ a1 [.int .i64 a1] from rfl) (Reps.none _ _)));intro v2 w4 ho5 hb hg_ hnew_;clear hg_ hnew_;(first | rw [← Ny1.out] at ho5 | (simp only [Int.reduceToNat] at ho5;rw [← Ny1.out] at ho5));have HO3:=a0_ (Kd.R_lower ho5 (below_size hbw_));replace HB:=a0_ (below_step hbw_ hb);clear hb ho5) | (go_at_call 144;(with_reducible refine (impl_endOf.calls k _ _ l0 a1 t4 _ ?side1 ?side2 A3.out).mono ?_);(case side1=>exact cc_ (Kd.C_below HR0.out HB.out));(case side2=>exact HC0.out);rintro e w' ⟨rfl,⟨nd,rfl⟩⟩;(try first | exact ⟨rfl,_,World.drewN_drewN _ _ _⟩ | exact ⟨rfl,_,Eq.trans (World.drewN_drewN _ _ _) (congrArg (World.drewN _) (Nat.add_assoc _ _ _))⟩))))
 go_loopg [5,6] k (fun kq v5 v6 w'=>∃ (x5_1 : List Int) (x6_1 : Int),v6 = .int .i64 x6_1 ∧ Aside0 (impl_tryFrom.l0 kq l0 a1 x5_1 x6_1 = some r) ∧ Aside0 (kq ≤ k) ∧ Aside0 (Kd.R (Kd.int .i64) 3 w' w.heap.size (fun _=>True) v5 x5_1) ∧ Aside0 (Below w.heap.size w w'))
 case atStart=>exact ⟨(y1),(t4),(by first | rfl | (simp;done) | (simp [*];done)),H',⟨Nat.le_refl _⟩,⟨by (with_reducible repeat (first | apply Kd.R_alloc | apply Kd.R_drewN | apply Kd.R_drew));exact HO3.out⟩,⟨hbw_⟩⟩
 case round =>
  clear H';(try clear c1);(try clear p2);obtain ⟨x5_1,x6_1,rfl,HA,HK1,HO_5,HB⟩:=hrel
  cases gk with
  | zero=>exact absurd HA.out (by simp [impl_tryFrom.l0])
  | succ k1 =>
   have H:=HA.out;clear HA;simp only [impl_tryFrom.l0] at H;by_cases c6 : x6_1 < (l0.length : Int)
   ·rw [if_pos c6] at H
    have c6b0 : decide (x6_1 < (l0.length : Int)) = true:=decide_eq_true c6;clear c6;by_cases c7 : 0 ≤ x6_1
    ·rw [if_pos c7] at H
     have c7b0 : decide (0 ≤ x6_1) = true:=decide_eq_true c7;clear c7;by_cases c8 : 0 ≤ a1
     ·rw [if_pos c8] at H
      have c8b0 : decide (0 ≤ a1) = true:=decide_eq_true c8;clear c8;by_cases c9 : a1 < (l0.length : Int)
      ·rw [if_pos c9] at H
       have c9b0 : decide (a1 < (l0.length : Int)) = true:=decide_eq_true c9;clear c9;by_cases c10 : ((rd_T75 l0 x6_1).f0) = ((rd_T75 l0 a1).f0)
       ·rw [if_pos c10] at H
        have c10b0 : (((rd_T75 l0 x6_1).f0) == ((rd_T75 l0 a1).f0)) = true:=beq_iff_eq.mpr c10;have c10b1 : (((rd_T75 l0 x6_1).f0) != ((rd_T75 l0 a1).f0)) = false:=bne_eq_false_iff_eq.mpr c10;clear c10;replace H:=Option.bind_eq_some_iff.mp H;obtain ⟨t8,A110,H⟩:=H;(try dsimp only at H);have A11:=a0_ A110;clear A110;by_cases c12 : t8 = true
        ·subst c12
         have H1 : (if x5_1.length < 17592186044416 then ((impl_endOf.f k1 l0 x6_1).bind fun t12=>(impl_tryFrom.l0 k1 l0 a1 (x5_1 ++ [x6_1]) t12)) else (none)) = some r:=by rw [if_pos rfl] at H;exact H
         clear H;have H:=H1;clear H1;by_cases c13 : x5_1.length < 17592186044416
         ·rw [if_pos c13] at H
          have LMc13:=a0_ c13;clear c13;obtain ⟨y9,hy9⟩ : ∃ y_ : List Int,y_ = (x5_1 ++ [x6_1]):=⟨_,rfl⟩
          replace H : ((impl_endOf.f k1 l0 x6_1).bind fun t12=>(impl_tryFrom.l0 k1 l0 a1 y9 t12)) = some r:=by first | (rw [hy9];with_reducible exact H) | (have H2_:=(Option.bind_some _ _).symm.trans H;rw [hy9];with_reducible exact H2_) | (have H2_:=(Option.bind_some _ _).symm.trans H;with_reducible exact H2_) | with_reducible exact H | (rw [hy9];exact H) | exact H
          have Ny9:=a0_ hy9;clear hy9;replace H:=Option.bind_eq_some_iff.mp H;obtain ⟨t12,A140,H⟩:=H;replace H : (impl_tryFrom.l0 k1 l0 a1 y9 t12) = some r:=H;have A14:=a0_ A140;clear A140;have H':=a0_ H;clear H;have p5 : 0 ≤ (x6_1 : Int):=od_;have q5 : x6_1 < (l0.length : Int):=od_;obtain ⟨ad5,e5,hx5_0,hx5_1,hx5_2,hx5_3⟩:=at_T75 HR0.out x6_1 p5 q5;cases e5;replace hx5_0:=cl_ HB.out hx5_0;replace hx5_1:=cl_ HB.out hx5_1;replace hx5_2:=cl_ HB.out hx5_2;replace hx5_3:=cl_ HB.out hx5_3;replace p5:=eq_true p5;replace q5:=eq_true q5;have p6 : 0 ≤ (a1 : Int):=od_;have q6 : a1 < (l0.length : Int):=od_;obtain ⟨ad6,e6,hx6_0,hx6_1,hx6_2,hx6_3⟩:=at_T75 HR0.out a1 p6 q6;obtain rfl : ad5 = ad6:=(by injection e6);replace hx6_0:=cl_ HB.out hx6_0;replace hx6_1:=cl_ HB.out hx6_1;replace hx6_2:=cl_ HB.out hx6_2;replace hx6_3:=cl_ HB.out hx6_3;replace p6:=eq_true p6;replace q6:=eq_true q6;have p7 : 0 ≤ (x6_1 : Int):=od_;have q7 : x6_1 < (l0.length : Int):=od_;obtain ⟨ad7,e7,hx7_0,hx7_1,hx7_2,hx7_3⟩:=at_T75 HR0.out x6_1 p7 q7;obtain rfl : ad5 = ad7:=(by injection e7);replace hx7_0:=cl_ HB.out hx7_0;replace hx7_1:=cl_ HB.out hx7_1;replace hx7_2:=cl_ HB.out hx7_2;replace hx7_3:=cl_ HB.out hx7_3;replace p7:=eq_true p7;replace q7:=eq_true q7;go_wp2_with (first | (go_at_call 75;(with_reducible refine (impl_within.calls ((rd_T75 l0 x6_1).f1) 8 10 true _ A11.out).mono ?_);rintro e w' ⟨rfl,⟨nd,rfl⟩⟩;(try first | exact ⟨rfl,_,World.drewN_drewN _ _ _⟩ | exact ⟨rfl,_,Eq.trans (World.drewN_drewN _ _ _) (congrArg (World.drewN _) (Nat.add_assoc _ _ _))⟩)) | ((with_reducible refine gate_builtin (b:=.append) (xs:=#[.tmp 40,.tmp 42]) rfl ?_);at_builtin;refine Kd.R_append (Kd.int .i64) (w0:=w) w.heap.size rfl (.tmp 40) (.tmp 42) 26 3 (.int .i64 0) 8 rfl Try.underlying26 info3 rfl (by decide) (by omega) u5 x5_1 x6_1 [.int .i64 x6_1] (fun _=>True) (fun _=>False) rfl rfl ?aP (fun _ hk=>hk.elim) ?aF ?aO ?aB ?aS ?aL ?_;(case aP=>exact rfl);(case aB=>exact hbw_);(case aF=>exact (fun _ _=>trivial));(case aO=>exact (rr_ HO_5.out));(case aS=>exact (below_size hbw_));(case aL=>have:=LMc13.out;omega);intro v10 w15 ho hb hg hat;rw [← Ny9.out] at ho;have HO11:=a0_ (ho);replace HB:=a0_ (hb);clear HO_5;clear ho hb hg hat) | (go_at_call 144;(with_reducible refine (impl_endOf.calls k1 _ _ l0 x6_1 t12 _ ?side1 ?side2 A14.out).mono ?_);(case side1=>exact cc_ (Kd.C_below HR0.out HB.out));(case side2=>exact HC0.out);rintro e w' ⟨rfl,⟨nd,rfl⟩⟩;(try first | exact ⟨rfl,_,World.drewN_drewN _ _ _⟩ | exact ⟨rfl,_,Eq.trans (World.drewN_drewN _ _ _) (congrArg (World.drewN _) (Nat.add_assoc _ _ _))⟩)))
          repeat (go_quiet (first | (go_at_call 75;(with_reducible refine (impl_within.calls ((rd_T75 l0 x6_1).f1) 8 10 true _ A11.out).mono ?_);rintro e w' ⟨rfl,⟨nd,rfl⟩⟩;(try first | exact ⟨rfl,_,World.drewN_drewN _ _ _⟩ | exact ⟨rfl,_,Eq.trans (World.drewN_drewN _ _ _) (congrArg (World.drewN _) (Nat.add_assoc _ _ _))⟩)) | ((with_reducible refine gate_builtin (b:=.append) (xs:=#[.tmp 40,.tmp 42]) rfl ?_);at_builtin;refine Kd.R_append (Kd.int .i64) (w0:=w) w.heap.size rfl (.tmp 40) (.tmp 42) 26 3 (.int .i64 0) 8 rfl Try.underlying26 info3 rfl (by decide) (by omega) u5 x5_1 x6_1 [.int .i64 x6_1] (fun _=>True) (fun _=>False) rfl rfl ?aP (fun _ hk=>hk.elim) ?aF ?aO ?aB ?aS ?aL ?_;(case aP=>exact rfl);(case aB=>exact hbw_);(case aF=>exact (fun _ _=>trivial));(case aO=>exact (rr_ HO_5.out));(case aS=>exact (below_size hbw_));(case aL=>have:=LMc13.out;omega);intro v10 w15 ho hb hg hat;rw [← Ny9.out] at ho;have HO11:=a0_ (ho);replace HB:=a0_ (hb);clear HO_5;clear ho hb hg hat) | (go_at_call 144;(with_reducible refine (impl_endOf.calls k1 _ _ l0 x6_1 t12 _ ?side1 ?side2 A14.out).mono ?_);(case side1=>exact cc_ (Kd.C_below HR0.out HB.out));(case side2=>exact HC0.out);rintro e w' ⟨rfl,⟨nd,rfl⟩⟩;(try first | exact ⟨rfl,_,World.drewN_drewN _ _ _⟩ | exact ⟨rfl,_,Eq.trans (World.drewN_drewN _ _ _) (congrArg (World.drewN _) (Nat.add_assoc _ _ _))⟩)));try go_wp2_with (first | (go_at_call 75;(with_reducible refine (impl_within.calls ((rd_T75 l0 x6_1).f1) 8 10 true _ A11.out).mono ?_);rintro e w' ⟨rfl,⟨nd,rfl⟩⟩;(try first | exact ⟨rfl,_,World.drewN_drewN _ _ _⟩ | exact ⟨rfl,_,Eq.trans (World.drewN_drewN _ _ _) (congrArg (World.drewN _) (Nat.add_assoc _ _ _))⟩)) | ((with_reducible refine gate_builtin (b:=.append) (xs:=#[.tmp 40,.tmp 42]) rfl ?_);at_builtin;refine Kd.R_append (Kd.int .i64) (w0:=w) w.heap.size rfl (.tmp 40) (.tmp 42) 26 3 (.int .i64 0) 8 rfl Try.underlying26 info3 rfl (by decide) (by omega) u5 x5_1 x6_1 [.int .i64 x6_1] (fun _=>True) (fun _=>False) rfl rfl ?aP (fun _ hk=>hk.elim) ?aF ?aO ?aB ?aS ?aL ?_;(case aP=>exact rfl);(case aB=>exact hbw_);(case aF=>exact (fun _ _=>trivial));(case aO=>exact (rr_ HO_5.out));(case aS=>exact (below_size hbw_));(case aL=>have:=LMc13.out;omega);intro v10 w15 ho hb hg hat;rw [← Ny9.out] at ho;have HO11:=a0_ (ho);replace HB:=a0_ (hb);clear HO_5;clear ho hb hg hat) | (go_at_call 144;(with_reducible refine (impl_endOf.calls k1 _ _ l0 x6_1 t12 _ ?side1 ?side2 A14.out).mono ?_);(case side1=>exact cc_ (Kd.C_below HR0.out HB.out));(case side2=>exact HC0.out);rintro e w' ⟨rfl,⟨nd,rfl⟩⟩;(try first | exact ⟨rfl,_,World.drewN_drewN _ _ _⟩ | exact ⟨rfl,_,Eq.trans (World.drewN_drewN _ _ _) (congrArg (World.drewN _) (Nat.add_assoc _ _ _))⟩))))
          go_roundg k1
          case measure=>have:=HK1.out;omega
          case rel=>exact ⟨(y9),(t12),(by first | rfl | (simp;done) | (simp [*];done)),H',⟨by have:=HK1.out;omega⟩,⟨by (with_reducible repeat (first | apply Kd.R_alloc | apply Kd.R_drewN | apply Kd.R_drew));exact HO11.out⟩,⟨hbw_⟩⟩
         ·rw [if_neg c13] at H
          exact absurd H (by simp)
        ·replace c12:=Bool.eq_false_iff.mpr c12
         subst c12
         have H1 : (some x5_1) = some r:=by rw [if_neg (show ¬ (false = true) by decide)] at H;exact H
         clear H;have H:=H1;clear H1;obtain rfl:=Option.some.inj H;have p5 : 0 ≤ (x6_1 : Int):=od_;have q5 : x6_1 < (l0.length : Int):=od_;obtain ⟨ad5,e5,hx5_0,hx5_1,hx5_2,hx5_3⟩:=at_T75 HR0.out x6_1 p5 q5;cases e5;replace hx5_0:=cl_ HB.out hx5_0;replace hx5_1:=cl_ HB.out hx5_1;replace hx5_2:=cl_ HB.out hx5_2;replace hx5_3:=cl_ HB.out hx5_3;replace p5:=eq_true p5;replace q5:=eq_true q5;have p6 : 0 ≤ (a1 : Int):=od_;have q6 : a1 < (l0.length : Int):=od_;obtain ⟨ad6,e6,hx6_0,hx6_1,hx6_2,hx6_3⟩:=at_T75 HR0.out a1 p6 q6;obtain rfl : ad5 = ad6:=(by injection e6);replace hx6_0:=cl_ HB.out hx6_0;replace hx6_1:=cl_ HB.out hx6_1;replace hx6_2:=cl_ HB.out hx6_2;replace hx6_3:=cl_ HB.out hx6_3;replace p6:=eq_true p6;replace q6:=eq_true q6;have p7 : 0 ≤ (x6_1 : Int):=od_;have q7 : x6_1 < (l0.length : Int):=od_;obtain ⟨ad7,e7,hx7_0,hx7_1,hx7_2,hx7_3⟩:=at_T75 HR0.out x6_1 p7 q7;obtain rfl : ad5 = ad7:=(by injection e7);replace hx7_0:=cl_ HB.out hx7_0;replace hx7_1:=cl_ HB.out hx7_1;replace hx7_2:=cl_ HB.out hx7_2;replace hx7_3:=cl_ HB.out hx7_3;replace p7:=eq_true p7;replace q7:=eq_true q7;go_wp2_with (first | (go_at_call 75;(with_reducible refine (impl_within.calls ((rd_T75 l0 x6_1).f1) 8 10 false _ A11.out).mono ?_);rintro e w' ⟨rfl,⟨nd,rfl⟩⟩;(try first | exact ⟨rfl,_,World.drewN_drewN _ _ _⟩ | exact ⟨rfl,_,Eq.trans (World.drewN_drewN _ _ _) (congrArg (World.drewN _) (Nat.add_assoc _ _ _))⟩)))
         repeat (go_quiet (first | (go_at_call 75;(with_reducible refine (impl_within.calls ((rd_T75 l0 x6_1).f1) 8 10 false _ A11.out).mono ?_);rintro e w' ⟨rfl,⟨nd,rfl⟩⟩;(try first | exact ⟨rfl,_,World.drewN_drewN _ _ _⟩ | exact ⟨rfl,_,Eq.trans (World.drewN_drewN _ _ _) (congrArg (World.drewN _) (Nat.add_assoc _ _ _))⟩)));try go_wp2_with (first | (go_at_call 75;(with_reducible refine (impl_within.calls ((rd_T75 l0 x6_1).f1) 8 10 false _ A11.out).mono ?_);rintro e w' ⟨rfl,⟨nd,rfl⟩⟩;(try first | exact ⟨rfl,_,World.drewN_drewN _ _ _⟩ | exact ⟨rfl,_,Eq.trans (World.drewN_drewN _ _ _) (congrArg (World.drewN _) (Nat.add_assoc _ _ _))⟩))))
         go_ret;exact ⟨_,by first | rfl | (simp [errW_none,errW_some] <;> rfl) | (simp [*,errW_none,errW_some] <;> rfl),by (with_reducible repeat (first | apply Kd.R_alloc | apply Kd.R_drewN | apply Kd.R_drew));exact HO_5.out,hbw_⟩
       ·rw [if_neg c10] at H
        have c10b0 : (((rd_T75 l0 x6_1).f0) == ((rd_T75 l0 a1).f0)) = false:=beq_eq_false_iff_ne.mpr c10;have c10b1 : (((rd_T75 l0 x6_1).f0) != ((rd_T75 l0 a1).f0)) = true:=bne_iff_ne.mpr c10;obtain rfl:=Option.some.inj H;have p5 : 0 ≤ (x6_1 : Int):=od_;have q5 : x6_1 < (l0.length : Int):=od_;obtain ⟨ad5,e5,hx5_0,hx5_1,hx5_2,hx5_3⟩:=at_T75 HR0.out x6_1 p5 q5;cases e5;replace hx5_0:=cl_ HB.out hx5_0;replace hx5_1:=cl_ HB.out hx5_1;replace hx5_2:=cl_ HB.out hx5_2;replace hx5_3:=cl_ HB.out hx5_3;replace p5:=eq_true p5;replace q5:=eq_true q5;have p6 : 0 ≤ (a1 : Int):=od_;have q6 : a1 < (l0.length : Int):=od_;obtain ⟨ad6,e6,hx6_0,hx6_1,hx6_2,hx6_3⟩:=at_T75 HR0.out a1 p6 q6;obtain rfl : ad5 = ad6:=(by injection e6);replace hx6_0:=cl_ HB.out hx6_0;replace hx6_1:=cl_ HB.out hx6_1;replace hx6_2:=cl_ HB.out hx6_2;replace hx6_3:=cl_ HB.out hx6_3;replace p6:=eq_true p6;replace q6:=eq_true q6;go_wp2
        repeat (go_quiet (fail);try go_wp2)
        go_ret;exact ⟨_,by first | rfl | (simp [errW_none,errW_some] <;> rfl) | (simp [*,errW_none,errW_some] <;> rfl),by (with_reducible repeat (first | apply Kd.R_alloc | apply Kd.R_drewN | apply Kd.R_drew));exact HO_5.out,hbw_⟩
      ·rw [if_neg c9] at H
       exact absurd H (by simp)
     ·rw [if_neg c8] at H
      exact absurd H (by simp)
    ·rw [if_neg c7] at H
     exact absurd H (by simp)
   ·rw [if_neg c6] at H
    have c6b0 : decide (x6_1 < (l0.length : Int)) = false:=decide_eq_false c6;clear c6;obtain rfl:=Option.some.inj H;go_wp2
    repeat (go_quiet (fail);try go_wp2)
    go_ret;exact ⟨_,by first | rfl | (simp [errW_none,errW_some] <;> rfl) | (simp [*,errW_none,errW_some] <;> rfl),by (with_reducible repeat (first | apply Kd.R_alloc | apply Kd.R_drewN | apply Kd.R_drew));exact HO_5.out,hbw_⟩
theorem impl_tryFrom_ev (l : List S75) (i : Nat) (hi : i < l.length) (hl : l.length ≤ 1099511627776) : Ev (fun k=>impl_tryFrom.f k l (i : Int)) (nI (i :: chR l l.length i)):=by
 have key : ∀ f (c : Nat) (acc : List Int),l.length - c ≤ f → c < l.length → ld l c = ld l i → acc.length ≤ c + 1 → Ev (fun k=>impl_tryFrom.l0 k l (i : Int) acc ((endN l c : Nat) : Int)) (acc ++ nI (chR l f c)):=by
  intro f
  induction f with
  | zero=>intro c acc h1 h2;omega
  | succ f ih =>
   intro c acc h1 h2 h3 h4
   have hg:=endN_gt l c
   have hle:=endN_le h2
   rw [chR]
   refine Ev.succ ?_
   simp only [impl_tryFrom.l0,rd_ld_,rd_lk_]
   by_cases he : endN l c < l.length
   ·refine Ev.pos (by omega) (Ev.pos (by omega) (Ev.pos (by omega) (Ev.pos (by omega) ?_)))
    by_cases hd : ld l (endN l c) = ld l c
    ·refine Ev.pos (by omega) (Ev.bind (Ev.const (impl_within_ev _ _ _)) ?_)
     by_cases hk : 8 ≤ lk l (endN l c) ∧ lk l (endN l c) ≤ 10
     ·rw [if_pos ⟨he,hd,hk⟩]
      have:=ih (endN l c) (acc ++ [((endN l c : Nat) : Int)]) (by omega) he (by omega) (by rw [List.length_append];simp;omega)
      refine Ev.pos (by simp [hk]) (Ev.pos (by omega) (Ev.bind (impl_endOf_ev l _ he hl) ?_))
      simpa [nI] using this
     ·rw [if_neg (fun h=>hk h.2.2)]
      refine Ev.neg (fun h=>hk ?_) (Ev.const (by simp [nI]))
      simpa using h
    ·rw [if_neg (fun h=>hd h.2.1)]
     exact Ev.neg (by omega) (Ev.const (by simp [nI]))
   ·rw [if_neg (fun h=>he h.1)]
    exact Ev.neg (by omega) (Ev.const (by simp [nI]))
 unfold impl_tryFrom.f
 refine Ev.bind (impl_endOf_ev l i hi hl) ?_
 exact key l.length i [(i : Int)] (by omega) hi rfl (by simp)
end Go.Proofs.Ytacgehaipacehaa.P
namespace Go.Proofs.Ytacgehaipacehaa.P
open Go.RowKit Go.Proofs.YtacgehaipacehaaW.PrintWords Go.Proofs.YtacgehaipacehaaW.PrintLast Go.Proofs.YtacgehaipacehaaW.PrintMore
attribute [local go_sem] max2_int min2_int max_two min_two max_three min_three max_four min_four
set_option linter.unusedVariables false
set_option linter.unusedSimpArgs false
mutual
def impl_tryOk.l0 : Nat → List (S75) → List Int → Int → Int → List Int → Int → Int → Option (Bool)
 | 0,_,_,_,_,_,_,_=>none
 | k + 1,x0,x1,x5,x6,x11,x12,x13=>if x13 < x12 then (if 0 ≤ x13 then (if x13 < (x11.length : Int) then (if 0 ≤ (rd x11 x13) then (if (rd x11 x13) < (x0.length : Int) then (if ((rd_T75 x0 (rd x11 x13)).f1) = 8 then (impl_tryOk.j1 k x0 x1 x5 x6 ((rd_T75 x0 (rd x11 x13)).f1) x11 x12 x13 (decide (x6 ≤ 8))) else (impl_tryOk.j1 k x0 x1 x5 x6 ((rd_T75 x0 (rd x11 x13)).f1) x11 x12 x13 false)) else (none)) else (none)) else (none)) else (none)) else (if (x1.length : Int) > 1 then (some (decide (x5 ≤ 6))) else (some false))
def impl_tryOk.j1 : Nat → List (S75) → List Int → Int → Int → Int → List Int → Int → Int → Bool → Option (Bool)
 | 0,_,_,_,_,_,_,_,_,_=>none
 | k + 1,x0,x1,x5,x6,x9,x11,x12,x13,x22=>if x22 = true then (impl_tryOk.l0 k x0 x1 (wrap64 (x5 + 1)) x9 x11 x12 (wrap64 (x13 + 1))) else (if x9 = 9 then (impl_tryOk.j2 k x0 x1 x5 x6 x9 x11 x12 x13 (x6 == 8)) else (impl_tryOk.j2 k x0 x1 x5 x6 x9 x11 x12 x13 false))
def impl_tryOk.j2 : Nat → List (S75) → List Int → Int → Int → Int → List Int → Int → Int → Bool → Option (Bool)
 | 0,_,_,_,_,_,_,_,_,_=>none
 | k + 1,x0,x1,x5,x6,x9,x11,x12,x13,x31=>if x31 = true then (impl_tryOk.l0 k x0 x1 x5 x9 x11 x12 (wrap64 (x13 + 1))) else (if x9 = 10 then (if x6 < 10 then (impl_tryOk.l0 k x0 x1 x5 x9 x11 x12 (wrap64 (x13 + 1))) else (some false)) else (some false))
end
def impl_tryOk.f (k : Nat) (l0 : List (S75)) (l1 : List Int) : Option (Bool):=if 1 ≤ (l1.length : Int) then (impl_tryOk.l0 k l0 l1 0 7 (l1.drop 1) ((l1.drop 1).length : Int) 0) else (none)
theorem impl_tryOk.mono_l : ∀ k,(∀ y0 y1 y2 y3 y4 y5 y6,LeO (impl_tryOk.l0 k y0 y1 y2 y3 y4 y5 y6) (impl_tryOk.l0 (k + 1) y0 y1 y2 y3 y4 y5 y6)) ∧ (∀ y0 y1 y2 y3 y4 y5 y6 y7 y8,LeO (impl_tryOk.j1 k y0 y1 y2 y3 y4 y5 y6 y7 y8) (impl_tryOk.j1 (k + 1) y0 y1 y2 y3 y4 y5 y6 y7 y8)) ∧ (∀ y0 y1 y2 y3 y4 y5 y6 y7 y8,LeO (impl_tryOk.j2 k y0 y1 y2 y3 y4 y5 y6 y7 y8) (impl_tryOk.j2 (k + 1) y0 y1 y2 y3 y4 y5 y6 y7 y8))
 | 0=>⟨fun _ _ _ _ _ _ _ r h=>by simp [impl_tryOk.l0] at h,fun _ _ _ _ _ _ _ _ _ r h=>by simp [impl_tryOk.j1] at h,fun _ _ _ _ _ _ _ _ _ r h=>by simp [impl_tryOk.j2] at h⟩
 | k + 1=>by
  obtain ⟨ih0,ih1,ih2⟩:=impl_tryOk.mono_l k
  refine ⟨?_,?_,?_⟩
  ·intro y0 y1 y2 y3 y4 y5 y6
   unfold impl_tryOk.l0
   repeat' first
   | (with_reducible exact ih0 _ _ _ _ _ _ _)
   | (with_reducible exact ih1 _ _ _ _ _ _ _ _ _)
   | (with_reducible exact ih2 _ _ _ _ _ _ _ _ _)
   | (with_reducible exact LeO.refl _)
   | (with_reducible exact LeO.none _)
   | (with_reducible refine LeO.ite ?_ ?_)
   | (with_reducible refine LeO.bind ?_ (fun _=>?_))
  ·intro y0 y1 y2 y3 y4 y5 y6 y7 y8
   unfold impl_tryOk.j1
   repeat' first
   | (with_reducible exact ih0 _ _ _ _ _ _ _)
   | (with_reducible exact ih1 _ _ _ _ _ _ _ _ _)
   | (with_reducible exact ih2 _ _ _ _ _ _ _ _ _)
   | (with_reducible exact LeO.refl _)
   | (with_reducible exact LeO.none _)
   | (with_reducible refine LeO.ite ?_ ?_)
   | (with_reducible refine LeO.bind ?_ (fun _=>?_))
  ·intro y0 y1 y2 y3 y4 y5 y6 y7 y8
   unfold impl_tryOk.j2
   repeat' first
   | (with_reducible exact ih0 _ _ _ _ _ _ _)
   | (with_reducible exact ih1 _ _ _ _ _ _ _ _ _)
   | (with_reducible exact ih2 _ _ _ _ _ _ _ _ _)
   | (with_reducible exact LeO.refl _)
   | (with_reducible exact LeO.none _)
   | (with_reducible refine LeO.ite ?_ ?_)
   | (with_reducible refine LeO.bind ?_ (fun _=>?_))
theorem impl_tryOk.mono : ∀ a0 a1 k,LeO (impl_tryOk.f k a0 a1) (impl_tryOk.f (k + 1) a0 a1):=by
 intro a0 a1 k
 obtain ⟨ih0,ih1,ih2⟩:=impl_tryOk.mono_l k
 unfold impl_tryOk.f
 repeat' first
   | (with_reducible exact ih0 _ _ _ _ _ _ _)
   | (with_reducible exact ih1 _ _ _ _ _ _ _ _ _)
   | (with_reducible exact ih2 _ _ _ _ _ _ _ _ _)
   | (with_reducible exact LeO.refl _)
   | (with_reducible exact LeO.none _)
   | (with_reducible refine LeO.ite ?_ ?_)
   | (with_reducible refine LeO.bind ?_ (fun _=>?_))
set_option maxHeartbeats 8000000 in
set_option maxRecDepth 100000 in
theorem impl_tryOk.calls (k : Nat) (A0 : Option Addr) (c0 : Nat) (l0 : List (S75)) (A1 : Option Addr) (c1 : Nat) (l1 : List Int) (r : Bool) (w : World) (hr0 : Kd.C k75 w A0 l0.length l0) (hc0 : l0.length ≤ c0) (hr1 : Kd.C (Kd.int .i64) w A1 l1.length l1) (hc1 : l1.length ≤ c1) (h : impl_tryOk.f k l0 l1 = some r) :
  Calls Try.prog 143 #[.slice A0 l0.length c0,.slice A1 l1.length c1] w fun e w'=>e = .returned (.bool r) ∧ Drawn0 w w':=by
 have HR0:=a0_ hr0;have HC0:=a0_ hc0;clear hr0 hc0;have HR1:=a0_ hr1;have HC1:=a0_ hc1;clear hr1 hc1;have H : (if 1 ≤ (l1.length : Int) then (impl_tryOk.l0 k l0 l1 0 7 (l1.drop 1) ((l1.drop 1).length : Int) 0) else (none)) = some r:=h;clear h;by_cases c3 : 1 ≤ (l1.length : Int)
 ·rw [if_pos c3] at H
  have c3b0:=eq_true c3;have c3b1 : decide (1 ≤ (l1.length : Int)) = true:=decide_eq_true c3;clear c3;have H':=a0_ H;clear H;obtain ⟨i04,hi04,_,hsz4,_⟩:=info_parts info3;obtain ⟨A4,hcut4,hA4,hC4⟩:=print_drop_of (P:=Try.prog) (Value.int .i64) 0 26 3 .i64 Try.underlying26 hi04 hsz4 A1 c1 l1 1 (by omega) (od_) HC1.out;have HR1:=a0_ (Kd.C_of_reads (h1:=fun _=>rfl) (hA4 _ (Kd.reads_of_C HR1.out)));have HC1:=a0_ hC4;clear hA4 hC4 hi04 hsz4;have e1_ : List.drop (Int.toNat 1) l1 = l1.drop 1:=rfl;simp only [e1_] at HR1 HC1 hcut4;generalize l1.drop 1 = l2 at HR1 HC1 hcut4 H';go_enter Try.func143,Try.ntmps143;go_wp2;go_loopg [5,6,13] k (fun kq v5 v6 v13 w'=>∃ (x5_1 : Int) (x6_1 : Int) (x13_1 : Int),v5 = .int .i64 x5_1 ∧ v6 = .int .i64 x6_1 ∧ v13 = .int .i64 x13_1 ∧ Aside0 (impl_tryOk.l0 kq l0 l1 x5_1 x6_1 l2 (l2.length : Int) x13_1 = some r) ∧ Aside0 (kq ≤ k) ∧ Drawn0 w w')
  case atStart=>exact ⟨(0),(7),(0),(by first | rfl | (simp;done) | (simp [*];done)),(by first | rfl | (simp;done) | (simp [*];done)),(by first | rfl | (simp;done) | (simp [*];done)),H',⟨Nat.le_refl _⟩,by repeat (first | exact Drawn0.refl _ | apply Drawn0.step)⟩
  case round =>
   clear H';(try clear c1);(try clear p2);(try clear c3);(try clear c3b0);(try clear c3b1);obtain ⟨x5_1,x6_1,x13_1,rfl,rfl,rfl,HA,HK1,⟨m1,rfl⟩⟩:=hrel
   cases gk with
   | zero=>exact absurd HA.out (by simp [impl_tryOk.l0])
   | succ k1 =>
    have H:=HA.out;clear HA;simp only [impl_tryOk.l0] at H;by_cases c5 : x13_1 < (l2.length : Int)
    ·rw [if_pos c5] at H
     have c5b0 : decide (x13_1 < (l2.length : Int)) = true:=decide_eq_true c5;clear c5;by_cases c6 : 0 ≤ x13_1
     ·rw [if_pos c6] at H
      have c6b0 : decide (0 ≤ x13_1) = true:=decide_eq_true c6;clear c6;by_cases c7 : x13_1 < (l2.length : Int)
      ·rw [if_pos c7] at H
       have c7b0 : decide (x13_1 < (l2.length : Int)) = true:=decide_eq_true c7;clear c7;by_cases c8 : 0 ≤ (rd l2 x13_1)
       ·rw [if_pos c8] at H
        have c8b0 : decide (0 ≤ (rd l2 x13_1)) = true:=decide_eq_true c8;clear c8;by_cases c9 : (rd l2 x13_1) < (l0.length : Int)
        ·rw [if_pos c9] at H
         have c9b0 : decide ((rd l2 x13_1) < (l0.length : Int)) = true:=decide_eq_true c9;clear c9;have HC10:=a0_ H;clear H;have p2 : 0 ≤ (x13_1 : Int):=od_;have q2 : x13_1 < (l2.length : Int):=od_;obtain ⟨ad2,e2,hx2_0⟩:=Kd.at_int HR1.out x13_1 p2 q2;cases e2;replace p2:=eq_true p2;replace q2:=eq_true q2;have p3 : 0 ≤ ((rd l2 x13_1) : Int):=od_;have q3 : (rd l2 x13_1) < (l0.length : Int):=od_;obtain ⟨ad3,e3,hx3_0,hx3_1,hx3_2,hx3_3⟩:=at_T75 HR0.out (rd l2 x13_1) p3 q3;cases e3;replace p3:=eq_true p3;replace q3:=eq_true q3;go_upto_region 7 with (fail);go_cut [22] (fun v22 wc=>∃ (kq : Nat) (x22_9 : Bool),v22 = .bool x22_9 ∧ Aside0 (impl_tryOk.j1 kq l0 l1 x5_1 x6_1 ((rd_T75 l0 (rd l2 x13_1)).f1) l2 (l2.length : Int) x13_1 x22_9 = some r) ∧ Aside0 (kq ≤ k1) ∧ Drawn0 w wc)
         case first =>
          have H:=HC10.out;clear HC10;by_cases c11 : ((rd_T75 l0 (rd l2 x13_1)).f1) = 8
          ·rw [if_pos c11] at H
           have c11b0 : (((rd_T75 l0 (rd l2 x13_1)).f1) == 8) = true:=beq_iff_eq.mpr c11;have c11b1 : (((rd_T75 l0 (rd l2 x13_1)).f1) != 8) = false:=bne_eq_false_iff_eq.mpr c11;clear c11;(first | rw [c11b0] | (simp only [i64_w,i32_w];rw [c11b0]) | skip);have H':=a0_ H;clear H;go_wp2;go_meet
           case rel=>exact ⟨_,(decide (x6_1 ≤ 8)),(by first | rfl | (simp;done) | (simp [*];done)),H',⟨by have:=HK1.out;first | omega | exact Nat.le_refl _⟩,by repeat (first | exact Drawn0.refl _ | apply Drawn0.step)⟩
          ·rw [if_neg c11] at H
           have c11b0 : (((rd_T75 l0 (rd l2 x13_1)).f1) == 8) = false:=beq_eq_false_iff_ne.mpr c11;have c11b1 : (((rd_T75 l0 (rd l2 x13_1)).f1) != 8) = true:=bne_iff_ne.mpr c11;(first | rw [c11b0] | (simp only [i64_w,i32_w];rw [c11b0]) | skip);have H':=a0_ H;clear H;go_wp2;go_meet
           case rel=>exact ⟨_,(false),(by first | rfl | (simp;done) | (simp [*];done)),H',⟨by have:=HK1.out;first | omega | exact Nat.le_refl _⟩,by repeat (first | exact Drawn0.refl _ | apply Drawn0.step)⟩
         case rest =>
          clear HC10;(try clear c1);(try clear p2);(try clear q2);(try clear hx2);(try clear c3);(try clear c3b0);(try clear c3b1);(try clear p3);(try clear q3);(try clear hx3);(try clear c5);(try clear c5b0);(try clear c6);(try clear c6b0);(try clear c7);(try clear c7b0);(try clear c8);(try clear c8b0);(try clear c9);(try clear c9b0);(try clear c11);(try clear c11b0);(try clear c11b1);(try clear hx2_0);(try clear hx3_0);(try clear hx3_1);(try clear hx3_2);(try clear hx3_3);(try clear p2);(try clear p3);(try clear q2);(try clear q3);obtain ⟨kq,x22_9,rfl,HA,HJ9,⟨mc9,rfl⟩⟩:=hcut
          cases kq with
          | zero=>exact absurd HA.out (by simp [impl_tryOk.j1])
          | succ kj9 =>
           have H:=HA.out;clear HA;simp only [impl_tryOk.j1] at H;by_cases c12 : x22_9 = true
           ·subst c12
            have H1 : (impl_tryOk.l0 kj9 l0 l1 (wrap64 (x5_1 + 1)) ((rd_T75 l0 (rd l2 x13_1)).f1) l2 (l2.length : Int) (wrap64 (x13_1 + 1))) = some r:=by rw [if_pos rfl] at H;exact H
            clear H;have H:=H1;clear H1;have H':=a0_ H;clear H;go_wp2;go_roundg kj9
            case measure=>have:=HK1.out;have:=HJ9.out;omega
            case rel=>exact ⟨(wrap64 (x5_1 + 1)),(((rd_T75 l0 (rd l2 x13_1)).f1)),(wrap64 (x13_1 + 1)),(by first | rfl | (simp;done) | (simp [*];done)),(by first | rfl | (simp;done) | (simp [*];done)),(by first | rfl | (simp;done) | (simp [*];done)),H',⟨by have:=HK1.out;have:=HJ9.out;omega⟩,by repeat (first | exact Drawn0.refl _ | apply Drawn0.step)⟩
           ·replace c12:=Bool.eq_false_iff.mpr c12
            subst c12
            have H1 : (if ((rd_T75 l0 (rd l2 x13_1)).f1) = 9 then (impl_tryOk.j2 kj9 l0 l1 x5_1 x6_1 ((rd_T75 l0 (rd l2 x13_1)).f1) l2 (l2.length : Int) x13_1 (x6_1 == 8)) else (impl_tryOk.j2 kj9 l0 l1 x5_1 x6_1 ((rd_T75 l0 (rd l2 x13_1)).f1) l2 (l2.length : Int) x13_1 false)) = some r:=by rw [if_neg (show ¬ (false = true) by decide)] at H;exact H
            clear H;have H:=H1;clear H1;have HC13:=a0_ H;clear H;go_upto_region 9 with (fail);go_cut [31] (fun v31 wc=>∃ (kq : Nat) (x31_12 : Bool),v31 = .bool x31_12 ∧ Aside0 (impl_tryOk.j2 kq l0 l1 x5_1 x6_1 ((rd_T75 l0 (rd l2 x13_1)).f1) l2 (l2.length : Int) x13_1 x31_12 = some r) ∧ Aside0 (kq ≤ kj9) ∧ Drawn0 w wc)
            case first =>
             have H:=HC13.out;clear HC13;by_cases c14 : ((rd_T75 l0 (rd l2 x13_1)).f1) = 9
             ·rw [if_pos c14] at H
              have c14b0 : (((rd_T75 l0 (rd l2 x13_1)).f1) == 9) = true:=beq_iff_eq.mpr c14;have c14b1 : (((rd_T75 l0 (rd l2 x13_1)).f1) != 9) = false:=bne_eq_false_iff_eq.mpr c14;clear c14;(first | rw [c14b0] | (simp only [i64_w,i32_w];rw [c14b0]) | skip);have H':=a0_ H;clear H;go_wp2;go_meet
              case rel=>exact ⟨_,((x6_1 == 8)),(by first | rfl | (simp;done) | (simp [*];done)),H',⟨by have:=HK1.out;have:=HJ9.out;first | omega | exact Nat.le_refl _⟩,by repeat (first | exact Drawn0.refl _ | apply Drawn0.step)⟩
             ·rw [if_neg c14] at H
              have c14b0 : (((rd_T75 l0 (rd l2 x13_1)).f1) == 9) = false:=beq_eq_false_iff_ne.mpr c14;have c14b1 : (((rd_T75 l0 (rd l2 x13_1)).f1) != 9) = true:=bne_iff_ne.mpr c14;(first | rw [c14b0] | (simp only [i64_w,i32_w];rw [c14b0]) | skip);have H':=a0_ H;clear H;go_wp2;go_meet
              case rel=>exact ⟨_,(false),(by first | rfl | (simp;done) | (simp [*];done)),H',⟨by have:=HK1.out;have:=HJ9.out;first | omega | exact Nat.le_refl _⟩,by repeat (first | exact Drawn0.refl _ | apply Drawn0.step)⟩
            case rest =>
             clear HC13;(try clear c1);(try clear p2);(try clear q2);(try clear hx2);(try clear c3);(try clear c3b0);(try clear c3b1);(try clear p3);(try clear q3);(try clear hx3);(try clear c5);(try clear c5b0);(try clear c6);(try clear c6b0);(try clear p6);(try clear c7);(try clear c7b0);(try clear c8);(try clear c8b0);(try clear c9);(try clear c9b0);(try clear c11);(try clear c11b0);(try clear c11b1);(try clear c12);(try clear c14);(try clear c14b0);(try clear c14b1);(try clear hx2_0);(try clear hx3_0);(try clear hx3_1);(try clear hx3_2);(try clear hx3_3);(try clear p2);(try clear p3);(try clear q2);(try clear q3);obtain ⟨kq,x31_12,rfl,HA,HJ12,⟨mc12,rfl⟩⟩:=hcut
             cases kq with
             | zero=>exact absurd HA.out (by simp [impl_tryOk.j2])
             | succ kj12 =>
              have H:=HA.out;clear HA;simp only [impl_tryOk.j2] at H;by_cases c15 : x31_12 = true
              ·subst c15
               have H1 : (impl_tryOk.l0 kj12 l0 l1 x5_1 ((rd_T75 l0 (rd l2 x13_1)).f1) l2 (l2.length : Int) (wrap64 (x13_1 + 1))) = some r:=by rw [if_pos rfl] at H;exact H
               clear H;have H:=H1;clear H1;have H':=a0_ H;clear H;go_wp2;go_roundg kj12
               case measure=>have:=HK1.out;have:=HJ9.out;have:=HJ12.out;omega
               case rel=>exact ⟨(x5_1),(((rd_T75 l0 (rd l2 x13_1)).f1)),(wrap64 (x13_1 + 1)),(by first | rfl | (simp;done) | (simp [*];done)),(by first | rfl | (simp;done) | (simp [*];done)),(by first | rfl | (simp;done) | (simp [*];done)),H',⟨by have:=HK1.out;have:=HJ9.out;have:=HJ12.out;omega⟩,by repeat (first | exact Drawn0.refl _ | apply Drawn0.step)⟩
              ·replace c15:=Bool.eq_false_iff.mpr c15
               subst c15
               have H1 : (if ((rd_T75 l0 (rd l2 x13_1)).f1) = 10 then (if x6_1 < 10 then (impl_tryOk.l0 kj12 l0 l1 x5_1 ((rd_T75 l0 (rd l2 x13_1)).f1) l2 (l2.length : Int) (wrap64 (x13_1 + 1))) else (some false)) else (some false)) = some r:=by rw [if_neg (show ¬ (false = true) by decide)] at H;exact H
               clear H;have H:=H1;clear H1;by_cases c16 : ((rd_T75 l0 (rd l2 x13_1)).f1) = 10
               ·rw [if_pos c16] at H
                have c16b0 : (((rd_T75 l0 (rd l2 x13_1)).f1) == 10) = true:=beq_iff_eq.mpr c16;have c16b1 : (((rd_T75 l0 (rd l2 x13_1)).f1) != 10) = false:=bne_eq_false_iff_eq.mpr c16;clear c16;by_cases c17 : x6_1 < 10
                ·rw [if_pos c17] at H
                 have c17b0 : decide (x6_1 < 10) = true:=decide_eq_true c17;clear c17;have H':=a0_ H;clear H;go_wp2;go_roundg kj12
                 case measure=>have:=HK1.out;have:=HJ9.out;have:=HJ12.out;omega
                 case rel=>exact ⟨(x5_1),(((rd_T75 l0 (rd l2 x13_1)).f1)),(wrap64 (x13_1 + 1)),(by first | rfl | (simp;done) | (simp [*];done)),(by first | rfl | (simp;done) | (simp [*];done)),(by first | rfl | (simp;done) | (simp [*];done)),H',⟨by have:=HK1.out;have:=HJ9.out;have:=HJ12.out;omega⟩,by repeat (first | exact Drawn0.refl _ | apply Drawn0.step)⟩
                ·rw [if_neg c17] at H
                 have c17b0 : decide (x6_1 < 10) = false:=decide_eq_false c17;clear c17;obtain rfl:=Option.some.inj H;go_wp2;go_ret;exact ⟨by first | rfl | (simp;done) | (simp [*];done),by repeat (first | exact Drawn0.refl _ | apply Drawn0.step)⟩
               ·rw [if_neg c16] at H
                have c16b0 : (((rd_T75 l0 (rd l2 x13_1)).f1) == 10) = false:=beq_eq_false_iff_ne.mpr c16;have c16b1 : (((rd_T75 l0 (rd l2 x13_1)).f1) != 10) = true:=bne_iff_ne.mpr c16;obtain rfl:=Option.some.inj H;go_wp2;go_ret;exact ⟨by first | rfl | (simp;done) | (simp [*];done),by repeat (first | exact Drawn0.refl _ | apply Drawn0.step)⟩
        ·rw [if_neg c9] at H
         exact absurd H (by simp)
       ·rw [if_neg c8] at H
        exact absurd H (by simp)
      ·rw [if_neg c7] at H
       exact absurd H (by simp)
     ·rw [if_neg c6] at H
      exact absurd H (by simp)
    ·rw [if_neg c5] at H
     have c5b0 : decide (x13_1 < (l2.length : Int)) = false:=decide_eq_false c5;clear c5;by_cases c18 : (l1.length : Int) > 1
     ·rw [if_pos c18] at H
      have c18b0 : decide (1 < (l1.length : Int)) = true:=decide_eq_true c18;have c18b1 : decide (1 < l1.length) = true:=decide_eq_true (by omega);clear c18;obtain rfl:=Option.some.inj H;go_wp2;go_ret;exact ⟨by first | rfl | (simp;done) | (simp [*];done),by repeat (first | exact Drawn0.refl _ | apply Drawn0.step)⟩
     ·rw [if_neg c18] at H
      have c18b0 : decide (1 < (l1.length : Int)) = false:=decide_eq_false c18;have c18b1 : decide (1 < l1.length) = false:=decide_eq_false (by omega);clear c18;obtain rfl:=Option.some.inj H;go_wp2;go_ret;exact ⟨by first | rfl | (simp;done) | (simp [*];done),by repeat (first | exact Drawn0.refl _ | apply Drawn0.step)⟩
 ·rw [if_neg c3] at H
  exact absurd H (by simp)
theorem impl_tryOk_ev (l : List S75) (i : Nat) (R : List Nat) (hR : ∀ c ∈ R,c < l.length) (hl : R.length ≤ 1099511627776) : Ev (fun k=>impl_tryOk.f k l (nI (i :: R))) (decide (1 ≤ R.length) && okR l R 0 7):=by
 have key : ∀ (R2 : List Nat) (m : Nat) (ex last : Int),R2 = R.drop m → m ≤ R.length → 0 ≤ ex → ex ≤ m → Ev (fun k=>impl_tryOk.l0 k l (nI (i :: R)) ex last (nI R) ((nI R).length : Int) (m : Int)) (decide (1 ≤ R.length) && okR l R2 ex last):=by
  intro R2
  induction R2 with
  | nil =>
   intro m ex last hm hm2 h0 h1
   have : R.length ≤ m:=List.drop_eq_nil_iff.1 hm.symm
   refine Ev.succ ?_
   simp only [impl_tryOk.l0]
   refine Ev.neg (by rw [nI_len];omega) ?_
   rw [nI_len,List.length_cons]
   by_cases h1R : 1 ≤ R.length
   ·exact Ev.pos (by omega) (Ev.const (by simp [okR,h1R]))
   ·exact Ev.neg (by omega) (Ev.const (by simp [h1R]))
  | cons c R2 ih =>
   intro m ex last hm hm2 h0 h1
   obtain ⟨hlt,hc,hd⟩:=drop_cons_ hm
   have hcl : c < l.length:=hR c (List.mem_of_mem_drop (i:=m) (by rw [← hm];exact List.mem_cons_self))
   have hw : wrap64 ((m : Int) + 1) = ((m + 1 : Nat) : Int):=wrap_nat_ hlt hl
   have hw2 : wrap64 (ex + 1) = ex + 1:=wrap_in (by omega) (by omega)
   have ih1:=fun e b=>ih (m + 1) e b hd (by omega)
   refine Ev.succ ?_
   simp only [impl_tryOk.l0,rd_nI,hc,rd_lk_]
   refine Ev.pos (by rw [nI_len];omega) (Ev.pos (by omega) (Ev.pos (by rw [nI_len];omega) (Ev.pos (by omega) (Ev.pos (by omega) ?_))))
   rw [okR]
   have j2F : lk l c ≠ 10 ∨ ¬ last < 10 → Ev (fun k=>impl_tryOk.j2 k l (nI (i :: R)) ex last (lk l c) (nI R) ((nI R).length : Int) (m : Int) false) false:=by
    intro h
    refine Ev.succ ?_
    simp only [impl_tryOk.j2]
    refine Ev.neg (by simp) ?_
    by_cases h10 : lk l c = 10
    ·exact Ev.pos h10 (Ev.neg (by omega) (Ev.const rfl))
    ·exact Ev.neg h10 (Ev.const rfl)
   by_cases h8 : lk l c = 8
   ·refine Ev.pos h8 (Ev.succ ?_)
    simp only [impl_tryOk.j1]
    by_cases hla : last ≤ 8
    ·rw [if_pos ⟨h8,hla⟩,hw,hw2]
     exact Ev.pos (by simp [hla]) (ih1 (ex + 1) (lk l c) (by omega) (by omega))
    ·rw [if_neg (fun h=>hla h.2),if_neg (by omega),Bool.and_false]
     exact Ev.neg (by simp [hla]) (Ev.neg (by omega) (j2F (.inl (by omega))))
   ·refine Ev.neg h8 (Ev.succ ?_)
    simp only [impl_tryOk.j1]
    refine Ev.neg (by simp) ?_
    rw [if_neg (fun h=>h8 h.1)]
    by_cases h9 : lk l c = 9
    ·refine Ev.pos h9 ?_
     by_cases hla : last = 8
     ·rw [if_pos (.inl ⟨h9,hla⟩)]
      refine Ev.succ ?_
      simp only [impl_tryOk.j2]
      rw [hw]
      exact Ev.pos (by simp [hla]) (ih1 ex (lk l c) (by omega) (by omega))
     ·rw [if_neg (by omega),Bool.and_false,show (last == 8) = false by simp [hla]]
      exact j2F (.inl (by omega))
    ·refine Ev.neg h9 ?_
     by_cases h10 : lk l c = 10 ∧ last < 10
     ·rw [if_pos (.inr h10)]
      refine Ev.succ ?_
      simp only [impl_tryOk.j2]
      rw [hw]
      exact Ev.neg (by simp) (Ev.pos h10.1 (Ev.pos h10.2 (ih1 ex (lk l c) (by omega) (by omega))))
     ·rw [if_neg (by omega),Bool.and_false]
      exact j2F (by omega)
 unfold impl_tryOk.f
 have e : (nI (i :: R)).drop 1 = nI R:=rfl
 rw [e]
 refine Ev.pos (by rw [nI_len,List.length_cons];omega) ?_
 exact key R 0 0 7 rfl (by omega) (by omega) (by omega)
end Go.Proofs.Ytacgehaipacehaa.P
namespace Go.Proofs.Ytacgehaipacehaa.P
open Go.RowKit Go.Proofs.YtacgehaipacehaaW.PrintWords Go.Proofs.YtacgehaipacehaaW.PrintLast Go.Proofs.YtacgehaipacehaaW.PrintMore
attribute [local go_sem] max2_int min2_int max_two min_two max_three min_three max_four min_four
set_option linter.unusedVariables false
set_option linter.unusedSimpArgs false
mutual
def impl_blockOk.l0 : Nat → List (S75) → Bool → List Int → Int → Option (Bool)
 | 0,_,_,_,_=>none
 | k + 1,x0,x3,x9,x10=>if x10 < (x9.length : Int) then (if 0 ≤ x10 then (if 0 ≤ (rd x9 x10) then (if (rd x9 x10) < (x0.length : Int) then (if ((rd_T75 x0 (rd x9 x10)).f1) = 5 then (impl_blockOk.j1 k x0 x3 x9 x10 (rd x9 x10) ((rd_T75 x0 (rd x9 x10)).f1) ((rd_T75 x0 (rd x9 x10)).f1) (((rd_T75 x0 (rd x9 x10)).f1) == 5)) else (impl_blockOk.j1 k x0 x3 x9 x10 (rd x9 x10) ((rd_T75 x0 (rd x9 x10)).f1) ((rd_T75 x0 (rd x9 x10)).f1) (((rd_T75 x0 (rd x9 x10)).f1) == 6))) else (none)) else (none)) else (none)) else (some true)
def impl_blockOk.j1 : Nat → List (S75) → Bool → List Int → Int → Int → Int → Int → Bool → Option (Bool)
 | 0,_,_,_,_,_,_,_,_=>none
 | k + 1,x0,x3,x9,x10,x11,x12,x35,x36=>if x36 = true then (if x3 = true then (impl_blockOk.l0 k x0 x3 x9 (wrap64 (x10 + 1))) else (some false)) else (if x35 = 8 then (impl_blockOk.j2 k x0 x3 x9 x10 x11 x12 x35 (x35 == 8)) else (if x35 = 9 then (impl_blockOk.j2 k x0 x3 x9 x10 x11 x12 x35 (x35 == 9)) else (impl_blockOk.j2 k x0 x3 x9 x10 x11 x12 x35 (x35 == 10))))
def impl_blockOk.j2 : Nat → List (S75) → Bool → List Int → Int → Int → Int → Int → Bool → Option (Bool)
 | 0,_,_,_,_,_,_,_,_=>none
 | k + 1,x0,x3,x9,x10,x11,x12,x35,x41=>if x41 = true then (some false) else (if x35 = 7 then ((impl_tryFrom.f k x0 x11).bind fun t6=>((impl_tryOk.f k x0 t6).bind fun t9=>(if t9 = true then (impl_blockOk.l1 k x0 x3 x9 x10 t6 t6 (t6.length : Int) 0) else (some false)))) else (if x35 = 11 then (impl_blockOk.j4 k x0 x3 x9 x10 x11 x12 (x35 == 11)) else (impl_blockOk.j4 k x0 x3 x9 x10 x11 x12 (x35 == 12))))
def impl_blockOk.l1 : Nat → List (S75) → Bool → List Int → Int → List Int → List Int → Int → Int → Option (Bool)
 | 0,_,_,_,_,_,_,_,_=>none
 | k + 1,x0,x3,x9,x10,x13,x54,x55,x56=>if x56 < x55 then (if 0 ≤ x56 then (if x56 < (x54.length : Int) then ((impl_endOf.f k x0 (rd x54 x56)).bind fun t11=>((impl_blockOk.f k x0 (wrap64 ((rd x54 x56) + 1)) t11 x3).bind fun t12=>(if t12 = true then (impl_blockOk.l1 k x0 x3 x9 x10 x13 x54 x55 (wrap64 (x56 + 1))) else (some false)))) else (none)) else (none)) else (impl_blockOk.l0 k x0 x3 x9 (wrap64 ((wrap64 (x10 + (wrap64 ((x13.length : Int) - 1)))) + 1)))
def impl_blockOk.j4 : Nat → List (S75) → Bool → List Int → Int → Int → Int → Bool → Option (Bool)
 | 0,_,_,_,_,_,_,_=>none
 | k + 1,x0,x3,x9,x10,x11,x12,x75=>if x75 = true then ((impl_endOf.f k x0 x11).bind fun t13=>(if x3 = true then ((impl_blockOk.f k x0 (wrap64 (x11 + 1)) t13 true).bind fun t14=>(if t14 = true then (impl_blockOk.l0 k x0 x3 x9 (wrap64 (x10 + 1))) else (some false))) else ((impl_blockOk.f k x0 (wrap64 (x11 + 1)) t13 (x12 == 12)).bind fun t15=>(if t15 = true then (impl_blockOk.l0 k x0 x3 x9 (wrap64 (x10 + 1))) else (some false))))) else (impl_blockOk.l0 k x0 x3 x9 (wrap64 (x10 + 1)))
def impl_blockOk.f : Nat → List (S75) → Int → Int → Bool → Option (Bool)
 | 0,_,_,_,_=>none
 | k + 1,l0,a1,a2,a3=>(impl_siblings.f k l0 a1 a2).bind fun t1=>(impl_blockOk.l0 k l0 a3 t1 0)
end
theorem impl_blockOk.mono_l : ∀ k,(∀ y0 y1 y2 y3,LeO (impl_blockOk.f k y0 y1 y2 y3) (impl_blockOk.f (k + 1) y0 y1 y2 y3)) ∧ (∀ y0 y1 y2 y3,LeO (impl_blockOk.l0 k y0 y1 y2 y3) (impl_blockOk.l0 (k + 1) y0 y1 y2 y3)) ∧ (∀ y0 y1 y2 y3 y4 y5 y6 y7,LeO (impl_blockOk.j1 k y0 y1 y2 y3 y4 y5 y6 y7) (impl_blockOk.j1 (k + 1) y0 y1 y2 y3 y4 y5 y6 y7)) ∧ (∀ y0 y1 y2 y3 y4 y5 y6 y7,LeO (impl_blockOk.j2 k y0 y1 y2 y3 y4 y5 y6 y7) (impl_blockOk.j2 (k + 1) y0 y1 y2 y3 y4 y5 y6 y7)) ∧ (∀ y0 y1 y2 y3 y4 y5 y6 y7,LeO (impl_blockOk.l1 k y0 y1 y2 y3 y4 y5 y6 y7) (impl_blockOk.l1 (k + 1) y0 y1 y2 y3 y4 y5 y6 y7)) ∧ (∀ y0 y1 y2 y3 y4 y5 y6,LeO (impl_blockOk.j4 k y0 y1 y2 y3 y4 y5 y6) (impl_blockOk.j4 (k + 1) y0 y1 y2 y3 y4 y5 y6))
 | 0=>⟨fun _ _ _ _ r h=>by simp [impl_blockOk.f] at h,fun _ _ _ _ r h=>by simp [impl_blockOk.l0] at h,fun _ _ _ _ _ _ _ _ r h=>by simp [impl_blockOk.j1] at h,fun _ _ _ _ _ _ _ _ r h=>by simp [impl_blockOk.j2] at h,fun _ _ _ _ _ _ _ _ r h=>by simp [impl_blockOk.l1] at h,fun _ _ _ _ _ _ _ r h=>by simp [impl_blockOk.j4] at h⟩
 | k + 1=>by
  obtain ⟨ih0,ih1,ih2,ih3,ih4,ih5⟩:=impl_blockOk.mono_l k
  refine ⟨?_,?_,?_,?_,?_,?_⟩
  ·intro y0 y1 y2 y3
   unfold impl_blockOk.f
   repeat' first
   | (with_reducible exact ih0 _ _ _ _)
   | (with_reducible exact ih1 _ _ _ _)
   | (with_reducible exact ih2 _ _ _ _ _ _ _ _)
   | (with_reducible exact ih3 _ _ _ _ _ _ _ _)
   | (with_reducible exact ih4 _ _ _ _ _ _ _ _)
   | (with_reducible exact ih5 _ _ _ _ _ _ _)
   | (with_reducible exact impl_endOf.mono _ _ _)
   | (with_reducible exact impl_siblings.mono _ _ _ _)
   | (with_reducible exact impl_tryFrom.mono _ _ _)
   | (with_reducible exact impl_tryOk.mono _ _ _)
   | (with_reducible exact LeO.refl _)
   | (with_reducible exact LeO.none _)
   | (with_reducible refine LeO.ite ?_ ?_)
   | (with_reducible refine LeO.bind ?_ (fun _=>?_))
  ·intro y0 y1 y2 y3
   unfold impl_blockOk.l0
   repeat' first
   | (with_reducible exact ih0 _ _ _ _)
   | (with_reducible exact ih1 _ _ _ _)
   | (with_reducible exact ih2 _ _ _ _ _ _ _ _)
   | (with_reducible exact ih3 _ _ _ _ _ _ _ _)
   | (with_reducible exact ih4 _ _ _ _ _ _ _ _)
   | (with_reducible exact ih5 _ _ _ _ _ _ _)
   | (with_reducible exact impl_endOf.mono _ _ _)
   | (with_reducible exact impl_siblings.mono _ _ _ _)
   | (with_reducible exact impl_tryFrom.mono _ _ _)
   | (with_reducible exact impl_tryOk.mono _ _ _)
   | (with_reducible exact LeO.refl _)
   | (with_reducible exact LeO.none _)
   | (with_reducible refine LeO.ite ?_ ?_)
   | (with_reducible refine LeO.bind ?_ (fun _=>?_))
  ·intro y0 y1 y2 y3 y4 y5 y6 y7
   unfold impl_blockOk.j1
   repeat' first
   | (with_reducible exact ih0 _ _ _ _)
   | (with_reducible exact ih1 _ _ _ _)
   | (with_reducible exact ih2 _ _ _ _ _ _ _ _)
   | (with_reducible exact ih3 _ _ _ _ _ _ _ _)
   | (with_reducible exact ih4 _ _ _ _ _ _ _ _)
   | (with_reducible exact ih5 _ _ _ _ _ _ _)
   | (with_reducible exact impl_endOf.mono _ _ _)
   | (with_reducible exact impl_siblings.mono _ _ _ _)
   | (with_reducible exact impl_tryFrom.mono _ _ _)
   | (with_reducible exact impl_tryOk.mono _ _ _)
   | (with_reducible exact LeO.refl _)
   | (with_reducible exact LeO.none _)
   | (with_reducible refine LeO.ite ?_ ?_)
   | (with_reducible refine LeO.bind ?_ (fun _=>?_))
  ·intro y0 y1 y2 y3 y4 y5 y6 y7
   unfold impl_blockOk.j2
   repeat' first
   | (with_reducible exact ih0 _ _ _ _)
   | (with_reducible exact ih1 _ _ _ _)
   | (with_reducible exact ih2 _ _ _ _ _ _ _ _)
   | (with_reducible exact ih3 _ _ _ _ _ _ _ _)
   | (with_reducible exact ih4 _ _ _ _ _ _ _ _)
   | (with_reducible exact ih5 _ _ _ _ _ _ _)
   | (with_reducible exact impl_endOf.mono _ _ _)
   | (with_reducible exact impl_siblings.mono _ _ _ _)
   | (with_reducible exact impl_tryFrom.mono _ _ _)
   | (with_reducible exact impl_tryOk.mono _ _ _)
   | (with_reducible exact LeO.refl _)
   | (with_reducible exact LeO.none _)
   | (with_reducible refine LeO.ite ?_ ?_)
   | (with_reducible refine LeO.bind ?_ (fun _=>?_))
  ·intro y0 y1 y2 y3 y4 y5 y6 y7
   unfold impl_blockOk.l1
   repeat' first
   | (with_reducible exact ih0 _ _ _ _)
   | (with_reducible exact ih1 _ _ _ _)
   | (with_reducible exact ih2 _ _ _ _ _ _ _ _)
   | (with_reducible exact ih3 _ _ _ _ _ _ _ _)
   | (with_reducible exact ih4 _ _ _ _ _ _ _ _)
   | (with_reducible exact ih5 _ _ _ _ _ _ _)
   | (with_reducible exact impl_endOf.mono _ _ _)
   | (with_reducible exact impl_siblings.mono _ _ _ _)
   | (with_reducible exact impl_tryFrom.mono _ _ _)
   | (with_reducible exact impl_tryOk.mono _ _ _)
   | (with_reducible exact LeO.refl _)
   | (with_reducible exact LeO.none _)
   | (with_reducible refine LeO.ite ?_ ?_)
   | (with_reducible refine LeO.bind ?_ (fun _=>?_))
  ·intro y0 y1 y2 y3 y4 y5 y6
   unfold impl_blockOk.j4
   repeat' first
   | (with_reducible exact ih0 _ _ _ _)
   | (with_reducible exact ih1 _ _ _ _)
   | (with_reducible exact ih2 _ _ _ _ _ _ _ _)
   | (with_reducible exact ih3 _ _ _ _ _ _ _ _)
   | (with_reducible exact ih4 _ _ _ _ _ _ _ _)
   | (with_reducible exact ih5 _ _ _ _ _ _ _)
   | (with_reducible exact impl_endOf.mono _ _ _)
   | (with_reducible exact impl_siblings.mono _ _ _ _)
   | (with_reducible exact impl_tryFrom.mono _ _ _)
   | (with_reducible exact impl_tryOk.mono _ _ _)
   | (with_reducible exact LeO.refl _)
   | (with_reducible exact LeO.none _)
   | (with_reducible refine LeO.ite ?_ ?_)
   | (with_reducible refine LeO.bind ?_ (fun _=>?_))
theorem impl_blockOk.mono : ∀ a0 a1 a2 a3 k,LeO (impl_blockOk.f k a0 a1 a2 a3) (impl_blockOk.f (k + 1) a0 a1 a2 a3):=by
 intro a0 a1 a2 a3 k
 obtain ⟨ih0,ih1,ih2,ih3,ih4,ih5⟩:=impl_blockOk.mono_l k
 exact ih0 a0 a1 a2 a3
set_option maxHeartbeats 8000000 in
set_option maxRecDepth 100000 in
theorem impl_blockOk.calls (k : Nat) : ∀ (A0 : Option Addr) (c0 : Nat) (l0 : List (S75)) (a1 : Int) (a2 : Int) (a3 : Bool) (r : Bool) (w : World) (hr0 : Kd.C k75 w A0 l0.length l0) (hc0 : l0.length ≤ c0) (h : impl_blockOk.f k l0 a1 a2 a3 = some r),
  Calls Try.prog 100 #[.slice A0 l0.length c0,.int .i64 a1,.int .i64 a2,.bool a3] w fun e w'=>e = .returned (.bool r) ∧ Below w.heap.size w w':=by
 induction k using Nat.strongRecOn with
 | _ k ih =>
 intro A0 c0 l0 a1 a2 a3 r w hr0 hc0 h
 cases k with
 | zero=>exact absurd h (by simp [impl_blockOk.f])
 | succ k =>
 simp only [impl_blockOk.f] at h;have HR0:=a0_ hr0;have HC0:=a0_ hc0;clear hr0 hc0;have HB:=a0_ (Below.refl w.heap.size w);have H : ((impl_siblings.f k l0 a1 a2).bind fun t1=>(impl_blockOk.l0 k l0 a3 t1 0)) = some r:=h;clear h;replace H:=Option.bind_eq_some_iff.mp H;obtain ⟨t1,A50,H⟩:=H;replace H : (impl_blockOk.l0 k l0 a3 t1 0) = some r:=H;have A5:=a0_ A50;clear A50;have H':=a0_ H;clear H;go_enter Try.func100,Try.ntmps100;go_wp2_with (first | ((with_reducible refine gate_callee (f:=141) rfl ?_);refine goesL_ (some 19) rfl rfl Try.func141 (by kernel_rfl) rfl #[.slice A0 l0.length c0,.int .i64 a1,.int .i64 a2] rfl lm_ ?_;(with_reducible refine (impl_siblings.calls k _ _ l0 a1 a2 t1 _ ?side1 ?side2 A5.out).mono ?_);(case side1=>repeat (first | exact HR0.out | (with_reducible refine Kd.C_alloc ?_ _) | (with_reducible refine Kd.C_drewN ?_ _) | (with_reducible refine Kd.C_drew ?_)));(case side2=>exact HC0.out);rintro e w6 ⟨v2,rfl,ho0,hb⟩;refine ⟨_,rfl,?_⟩;have HO3:=a0_ (Kd.R_lower ho0 (below_size hbw_));replace HB:=a0_ (below_step hbw_ hb);(try clear hb);(try clear ho0)));go_loopg [10] k (fun kq v10 w'=>∃ (x10_1 : Int),v10 = .int .i64 x10_1 ∧ Aside0 (impl_blockOk.l0 kq l0 a3 t1 x10_1 = some r) ∧ Aside0 (kq ≤ k) ∧ Aside0 (Kd.R (Kd.int .i64) 3 w' w.heap.size (fun _=>True) v2 t1) ∧ Aside0 (Below w.heap.size w w'))
 case atStart=>exact ⟨(0),(by first | rfl | (simp;done) | (simp [*];done)),H',⟨Nat.le_refl _⟩,⟨by (with_reducible repeat (first | apply Kd.R_alloc | apply Kd.R_drewN | apply Kd.R_drew));exact HO3.out⟩,⟨hbw_⟩⟩
 case round =>
  clear H';(try clear c1);(try clear p2);obtain ⟨x10_1,rfl,HA,HK1,HO_9,HB⟩:=hrel
  cases gk with
  | zero=>exact absurd HA.out (by simp [impl_blockOk.l0])
  | succ k1 =>
   have H:=HA.out;clear HA;simp only [impl_blockOk.l0] at H;by_cases c7 : x10_1 < (t1.length : Int)
   ·rw [if_pos c7] at H
    have c7b0 : decide (x10_1 < (t1.length : Int)) = true:=decide_eq_true c7;clear c7;by_cases c8 : 0 ≤ x10_1
    ·rw [if_pos c8] at H
     have c8b0 : decide (0 ≤ x10_1) = true:=decide_eq_true c8;clear c8;by_cases c9 : 0 ≤ (rd t1 x10_1)
     ·rw [if_pos c9] at H
      have c9b0 : decide (0 ≤ (rd t1 x10_1)) = true:=decide_eq_true c9;clear c9;by_cases c10 : (rd t1 x10_1) < (l0.length : Int)
      ·rw [if_pos c10] at H
       have c10b0 : decide ((rd t1 x10_1) < (l0.length : Int)) = true:=decide_eq_true c10;clear c10;have HC11:=a0_ H;clear H;obtain ⟨Ao12,co12,eo12⟩:=Kd.R_slice HO_9.out;subst eo12;have p4 : 0 ≤ (x10_1 : Int):=od_;have q4 : x10_1 < (t1.length : Int):=od_;obtain ⟨ad4,e4,hx4_0⟩:=Kd.at_int (Kd.R_reads' HO_9.out).2.2 x10_1 p4 q4;cases e4;replace p4:=eq_true p4;replace q4:=eq_true q4;have p5 : 0 ≤ ((rd t1 x10_1) : Int):=od_;have q5 : (rd t1 x10_1) < (l0.length : Int):=od_;obtain ⟨ad5,e5,hx5_0,hx5_1,hx5_2,hx5_3⟩:=at_T75 HR0.out (rd t1 x10_1) p5 q5;cases e5;replace hx5_0:=cl_ HB.out hx5_0;replace hx5_1:=cl_ HB.out hx5_1;replace hx5_2:=cl_ HB.out hx5_2;replace hx5_3:=cl_ HB.out hx5_3;replace p5:=eq_true p5;replace q5:=eq_true q5;go_upto_if 36 with (fail);go_cut [36] (fun v36 wc=>∃ (kq : Nat) (x36_10 : Bool),v36 = .bool x36_10 ∧ Aside0 (impl_blockOk.j1 kq l0 a3 t1 x10_1 (rd t1 x10_1) ((rd_T75 l0 (rd t1 x10_1)).f1) ((rd_T75 l0 (rd t1 x10_1)).f1) x36_10 = some r) ∧ Aside0 (kq ≤ k1) ∧ Aside0 (Kd.R (Kd.int .i64) 3 wc w.heap.size (fun _=>True) (.slice (some ad4) t1.length co12) t1) ∧ Aside0 (Below w.heap.size w wc))
       case first =>
        have H:=HC11.out;clear HC11;by_cases c13 : ((rd_T75 l0 (rd t1 x10_1)).f1) = 5
        ·rw [if_pos c13] at H
         have c13b0 : (((rd_T75 l0 (rd t1 x10_1)).f1) == 5) = true:=beq_iff_eq.mpr c13;have c13b1 : (((rd_T75 l0 (rd t1 x10_1)).f1) != 5) = false:=bne_eq_false_iff_eq.mpr c13;clear c13;(first | rw [c13b0] | (simp only [i64_w,i32_w];rw [c13b0]) | skip);have H':=a0_ H;clear H;go_wp2;go_meet
         case rel=>exact ⟨_,((((rd_T75 l0 (rd t1 x10_1)).f1) == 5)),(by first | rfl | (simp;done) | (simp [*];done)),H',⟨by have:=HK1.out;first | omega | exact Nat.le_refl _⟩,⟨by (with_reducible repeat (first | apply Kd.R_alloc | apply Kd.R_drewN | apply Kd.R_drew));exact HO_9.out⟩,⟨hbw_⟩⟩
        ·rw [if_neg c13] at H
         have c13b0 : (((rd_T75 l0 (rd t1 x10_1)).f1) == 5) = false:=beq_eq_false_iff_ne.mpr c13;have c13b1 : (((rd_T75 l0 (rd t1 x10_1)).f1) != 5) = true:=bne_iff_ne.mpr c13;(first | rw [c13b0] | (simp only [i64_w,i32_w];rw [c13b0]) | skip);have H':=a0_ H;clear H;go_wp2;go_meet
         case rel=>exact ⟨_,((((rd_T75 l0 (rd t1 x10_1)).f1) == 6)),(by first | rfl | (simp;done) | (simp [*];done)),H',⟨by have:=HK1.out;first | omega | exact Nat.le_refl _⟩,⟨by (with_reducible repeat (first | apply Kd.R_alloc | apply Kd.R_drewN | apply Kd.R_drew));exact HO_9.out⟩,⟨hbw_⟩⟩
       case rest =>
        clear HC11;(try clear c1);(try clear p2);(try clear p4);(try clear q4);(try clear hx4);(try clear p5);(try clear q5);(try clear hx5);(try clear c7);(try clear c7b0);(try clear c8);(try clear c8b0);(try clear c9);(try clear c9b0);(try clear c10);(try clear c10b0);(try clear c13);(try clear c13b0);(try clear c13b1);(try clear hx4_0);(try clear hx5_0);(try clear hx5_1);(try clear hx5_2);(try clear hx5_3);(try clear p2);(try clear p4);(try clear p5);(try clear q4);(try clear q5);obtain ⟨kq,x36_10,rfl,HA,HJ10,HO_9,HB⟩:=hcut
        cases kq with
        | zero=>exact absurd HA.out (by simp [impl_blockOk.j1])
        | succ kj10 =>
         have H:=HA.out;clear HA;simp only [impl_blockOk.j1] at H;by_cases c14 : x36_10 = true
         ·subst c14
          have H1 : (if a3 = true then (impl_blockOk.l0 kj10 l0 a3 t1 (wrap64 (x10_1 + 1))) else (some false)) = some r:=by rw [if_pos rfl] at H;exact H
          clear H;have H:=H1;clear H1;by_cases c15 : a3 = true
          ·subst c15
           have H1 : (impl_blockOk.l0 kj10 l0 true t1 (wrap64 (x10_1 + 1))) = some r:=by rw [if_pos rfl] at H;exact H
           clear H;have H:=H1;clear H1;have H':=a0_ H;clear H;go_wp2;go_roundg kj10
           case measure=>have:=HK1.out;have:=HJ10.out;omega
           case rel=>exact ⟨(wrap64 (x10_1 + 1)),(by first | rfl | (simp;done) | (simp [*];done)),H',⟨by have:=HK1.out;have:=HJ10.out;omega⟩,⟨by (with_reducible repeat (first | apply Kd.R_alloc | apply Kd.R_drewN | apply Kd.R_drew));exact HO_9.out⟩,⟨hbw_⟩⟩
          ·replace c15:=Bool.eq_false_iff.mpr c15
           subst c15
           have H1 : (some false) = some r:=by rw [if_neg (show ¬ (false = true) by decide)] at H;exact H
           clear H;have H:=H1;clear H1;obtain rfl:=Option.some.inj H;go_wp2;go_ret;exact ⟨by first | rfl | (simp [errW_none,errW_some] <;> rfl) | (simp [*,errW_none,errW_some] <;> rfl),hbw_⟩
         ·replace c14:=Bool.eq_false_iff.mpr c14
          subst c14
          have H1 : (if ((rd_T75 l0 (rd t1 x10_1)).f1) = 8 then (impl_blockOk.j2 kj10 l0 a3 t1 x10_1 (rd t1 x10_1) ((rd_T75 l0 (rd t1 x10_1)).f1) ((rd_T75 l0 (rd t1 x10_1)).f1) (((rd_T75 l0 (rd t1 x10_1)).f1) == 8)) else (if ((rd_T75 l0 (rd t1 x10_1)).f1) = 9 then (impl_blockOk.j2 kj10 l0 a3 t1 x10_1 (rd t1 x10_1) ((rd_T75 l0 (rd t1 x10_1)).f1) ((rd_T75 l0 (rd t1 x10_1)).f1) (((rd_T75 l0 (rd t1 x10_1)).f1) == 9)) else (impl_blockOk.j2 kj10 l0 a3 t1 x10_1 (rd t1 x10_1) ((rd_T75 l0 (rd t1 x10_1)).f1) ((rd_T75 l0 (rd t1 x10_1)).f1) (((rd_T75 l0 (rd t1 x10_1)).f1) == 10)))) = some r:=by rw [if_neg (show ¬ (false = true) by decide)] at H;exact H
          clear H;have H:=H1;clear H1;have HC16:=a0_ H;clear H;go_upto_if 41 with (fail);go_cut [41] (fun v41 wc=>∃ (kq : Nat) (x41_15 : Bool),v41 = .bool x41_15 ∧ Aside0 (impl_blockOk.j2 kq l0 a3 t1 x10_1 (rd t1 x10_1) ((rd_T75 l0 (rd t1 x10_1)).f1) ((rd_T75 l0 (rd t1 x10_1)).f1) x41_15 = some r) ∧ Aside0 (kq ≤ kj10) ∧ Aside0 (Kd.R (Kd.int .i64) 3 wc w.heap.size (fun _=>True) (.slice (some ad4) t1.length co12) t1) ∧ Aside0 (Below w.heap.size w wc))
          case first =>
           have H:=HC16.out;clear HC16;by_cases c17 : ((rd_T75 l0 (rd t1 x10_1)).f1) = 8
           ·rw [if_pos c17] at H
            have c17b0 : (((rd_T75 l0 (rd t1 x10_1)).f1) == 8) = true:=beq_iff_eq.mpr c17;have c17b1 : (((rd_T75 l0 (rd t1 x10_1)).f1) != 8) = false:=bne_eq_false_iff_eq.mpr c17;clear c17;(first | rw [c17b0] | (simp only [i64_w,i32_w];rw [c17b0]) | skip);have H':=a0_ H;clear H;go_wp2;go_meet
            case rel=>exact ⟨_,((((rd_T75 l0 (rd t1 x10_1)).f1) == 8)),(by first | rfl | (simp;done) | (simp [*];done)),H',⟨by have:=HK1.out;have:=HJ10.out;first | omega | exact Nat.le_refl _⟩,⟨by (with_reducible repeat (first | apply Kd.R_alloc | apply Kd.R_drewN | apply Kd.R_drew));exact HO_9.out⟩,⟨hbw_⟩⟩
           ·rw [if_neg c17] at H
            have c17b0 : (((rd_T75 l0 (rd t1 x10_1)).f1) == 8) = false:=beq_eq_false_iff_ne.mpr c17;have c17b1 : (((rd_T75 l0 (rd t1 x10_1)).f1) != 8) = true:=bne_iff_ne.mpr c17;(first | rw [c17b0] | (simp only [i64_w,i32_w];rw [c17b0]) | skip);by_cases c18 : ((rd_T75 l0 (rd t1 x10_1)).f1) = 9
            ·rw [if_pos c18] at H
             have c18b0 : (((rd_T75 l0 (rd t1 x10_1)).f1) == 9) = true:=beq_iff_eq.mpr c18;have c18b1 : (((rd_T75 l0 (rd t1 x10_1)).f1) != 9) = false:=bne_eq_false_iff_eq.mpr c18;clear c18;have H':=a0_ H;clear H;go_wp2;go_meet
             case rel=>exact ⟨_,((((rd_T75 l0 (rd t1 x10_1)).f1) == 9)),(by first | rfl | (simp;done) | (simp [*];done)),H',⟨by have:=HK1.out;have:=HJ10.out;first | omega | exact Nat.le_refl _⟩,⟨by (with_reducible repeat (first | apply Kd.R_alloc | apply Kd.R_drewN | apply Kd.R_drew));exact HO_9.out⟩,⟨hbw_⟩⟩
            ·rw [if_neg c18] at H
             have c18b0 : (((rd_T75 l0 (rd t1 x10_1)).f1) == 9) = false:=beq_eq_false_iff_ne.mpr c18;have c18b1 : (((rd_T75 l0 (rd t1 x10_1)).f1) != 9) = true:=bne_iff_ne.mpr c18;have H':=a0_ H;clear H;go_wp2;go_meet
             case rel=>exact ⟨_,((((rd_T75 l0 (rd t1 x10_1)).f1) == 10)),(by first | rfl | (simp;done) | (simp [*];done)),H',⟨by have:=HK1.out;have:=HJ10.out;first | omega | exact Nat.le_refl _⟩,⟨by (with_reducible repeat (first | apply Kd.R_alloc | apply Kd.R_drewN | apply Kd.R_drew));exact HO_9.out⟩,⟨hbw_⟩⟩
          case rest =>
           clear HC16;(try clear c1);(try clear p2);(try clear p4);(try clear q4);(try clear hx4);(try clear p5);(try clear q5);(try clear hx5);(try clear p6);(try clear c7);(try clear c7b0);(try clear c8);(try clear c8b0);(try clear c9);(try clear c9b0);(try clear c10);(try clear c10b0);(try clear c13);(try clear c13b0);(try clear c13b1);(try clear c14);(try clear c15);(try clear c17);(try clear c17b0);(try clear c17b1);(try clear c18);(try clear c18b0);(try clear c18b1);(try clear hx4_0);(try clear hx5_0);(try clear hx5_1);(try clear hx5_2);(try clear hx5_3);(try clear p2);(try clear p4);(try clear p5);(try clear q4);(try clear q5);obtain ⟨kq,x41_15,rfl,HA,HJ15,HO_9,HB⟩:=hcut
           cases kq with
           | zero=>exact absurd HA.out (by simp [impl_blockOk.j2])
           | succ kj15 =>
            have H:=HA.out;clear HA;simp only [impl_blockOk.j2] at H;by_cases c19 : x41_15 = true
            ·subst c19
             have H1 : (some false) = some r:=by rw [if_pos rfl] at H;exact H
             clear H;have H:=H1;clear H1;obtain rfl:=Option.some.inj H;go_wp2;go_ret;exact ⟨by first | rfl | (simp [errW_none,errW_some] <;> rfl) | (simp [*,errW_none,errW_some] <;> rfl),hbw_⟩
            ·replace c19:=Bool.eq_false_iff.mpr c19
             subst c19
             have H1 : (if ((rd_T75 l0 (rd t1 x10_1)).f1) = 7 then ((impl_tryFrom.f kj15 l0 (rd t1 x10_1)).bind fun t6=>((impl_tryOk.f kj15 l0 t6).bind fun t9=>(if t9 = true then (impl_blockOk.l1 kj15 l0 a3 t1 x10_1 t6 t6 (t6.length : Int) 0) else (some false)))) else (if ((rd_T75 l0 (rd t1 x10_1)).f1) = 11 then (impl_blockOk.j4 kj15 l0 a3 t1 x10_1 (rd t1 x10_1) ((rd_T75 l0 (rd t1 x10_1)).f1) (((rd_T75 l0 (rd t1 x10_1)).f1) == 11)) else (impl_blockOk.j4 kj15 l0 a3 t1 x10_1 (rd t1 x10_1) ((rd_T75 l0 (rd t1 x10_1)).f1) (((rd_T75 l0 (rd t1 x10_1)).f1) == 12)))) = some r:=by rw [if_neg (show ¬ (false = true) by decide)] at H;exact H
             clear H;have H:=H1;clear H1;by_cases c20 : ((rd_T75 l0 (rd t1 x10_1)).f1) = 7
             ·rw [if_pos c20] at H
              have c20b0 : (((rd_T75 l0 (rd t1 x10_1)).f1) == 7) = true:=beq_iff_eq.mpr c20;have c20b1 : (((rd_T75 l0 (rd t1 x10_1)).f1) != 7) = false:=bne_eq_false_iff_eq.mpr c20;clear c20;replace H:=Option.bind_eq_some_iff.mp H;obtain ⟨t6,A210,H⟩:=H;(try dsimp only at H);have A21:=a0_ A210;clear A210;replace H:=Option.bind_eq_some_iff.mp H;obtain ⟨t9,A220,H⟩:=H;(try dsimp only at H);have A22:=a0_ A220;clear A220;by_cases c23 : t9 = true
              ·subst c23
               have H1 : (impl_blockOk.l1 kj15 l0 a3 t1 x10_1 t6 t6 (t6.length : Int) 0) = some r:=by rw [if_pos rfl] at H;exact H
               clear H;have H:=H1;clear H1;have H':=a0_ H;clear H;go_wp2_with (first | ((with_reducible refine gate_callee (f:=142) rfl ?_);refine goesL_ (some 49) rfl rfl Try.func142 (by kernel_rfl) rfl #[.slice (some ad5) l0.length c0,.int .i64 (rd t1 x10_1)] rfl lm_ ?_;(with_reducible refine (impl_tryFrom.calls kj15 _ _ l0 (rd t1 x10_1) t6 _ ?side1 ?side2 A21.out).mono ?_);(case side1=>exact cc_ (Kd.C_below HR0.out HB.out));(case side2=>exact HC0.out);rintro e w24 ⟨v7,rfl,ho0,hb⟩;refine ⟨_,rfl,?_⟩;have n0_:=a0_ (Kd.R_elder' (rr_ HO_9.out) (Kd.R_base ho0) hb);have n1_:=a0_ (Kd.R_lower (Kd.R_new' ho0 (Kd.R_lt (rr_ HO_9.out))) (below_size hbw_));have n2_:=a0_ (below_step hbw_ hb);clear HO_9 HB;have HO_9:=n0_;have HO8:=n1_;have HB:=n2_;clear n0_ n1_ n2_;(try clear hb);(try clear ho0);obtain ⟨Ao25,co25,eo25⟩:=Kd.R_slice HO8.out;subst eo25) | ((with_reducible refine gate_callee (f:=143) rfl ?_);refine goesL_ (some 52) rfl rfl Try.func143 (by kernel_rfl) rfl #[.slice (some ad5) l0.length c0,.slice Ao25 t6.length co25] rfl lm_ ?_;(with_reducible refine (impl_tryOk.calls kj15 _ _ l0 _ _ t6 true _ ?side1 ?side2 ?side3 ?side4 A22.out).mono ?_);(case side1=>exact cc_ (Kd.C_below HR0.out HB.out));(case side2=>exact HC0.out);(case side3=>exact cc_ (Kd.R_reads' HO8.out).2.2);(case side4=>exact (Kd.R_reads' HO8.out).2.1);rintro e w' ⟨rfl,⟨nd,rfl⟩⟩;refine ⟨_,rfl,?_⟩));go_loopg [56] kj15 (fun kq v56 w'=>∃ (x56_4 : Int),v56 = .int .i64 x56_4 ∧ Aside0 (impl_blockOk.l1 kq l0 a3 t1 x10_1 t6 t6 (t6.length : Int) x56_4 = some r) ∧ Aside0 (kq ≤ kj15) ∧ Aside0 (Kd.R (Kd.int .i64) 3 w' w.heap.size (fun k_=>some k_ ≠ ((.slice Ao25 t6.length co25) : Value).ownBlock ∧ some k_ ≠ ((.slice Ao25 t6.length co25) : Value).ownBlock) (.slice (some ad4) t1.length co12) t1) ∧ Aside0 (Kd.R (Kd.int .i64) 3 w' w.heap.size (fun k_=>some k_ ≠ ((.slice (some ad4) t1.length co12) : Value).ownBlock) (.slice Ao25 t6.length co25) t6) ∧ Aside0 (Kd.R (Kd.int .i64) 3 w' w.heap.size (fun k_=>some k_ ≠ ((.slice (some ad4) t1.length co12) : Value).ownBlock) (.slice Ao25 t6.length co25) t6) ∧ Aside0 (Below w.heap.size w w'))
               case atStart=>exact ⟨(0),(by first | rfl | (simp;done) | (simp [*];done)),H',⟨Nat.le_refl _⟩,⟨by (with_reducible repeat (first | apply Kd.R_alloc | apply Kd.R_drewN | apply Kd.R_drew));exact Kd.R_mono HO_9.out (fun _ hk=>⟨hk.2,hk.2⟩)⟩,⟨by (with_reducible repeat (first | apply Kd.R_alloc | apply Kd.R_drewN | apply Kd.R_drew));exact Kd.R_mono HO8.out (fun _ hk=>hk.2)⟩,⟨by (with_reducible repeat (first | apply Kd.R_alloc | apply Kd.R_drewN | apply Kd.R_drew));exact Kd.R_mono HO8.out (fun _ hk=>hk.2)⟩,⟨hbw_⟩⟩
               case round =>
                clear H';(try clear c1);(try clear c2);(try clear p2);(try clear p4);(try clear q4);(try clear hx4);(try clear p5);(try clear q5);(try clear hx5);(try clear p6);(try clear c7);(try clear c7b0);(try clear c8);(try clear c8b0);(try clear c9);(try clear c9b0);(try clear c10);(try clear c10b0);(try clear c13);(try clear c13b0);(try clear c13b1);(try clear c14);(try clear c15);(try clear c17);(try clear c17b0);(try clear c17b1);(try clear c18);(try clear c18b0);(try clear c18b1);(try clear c19);(try clear c20);(try clear c20b0);(try clear c20b1);(try clear c23);(try clear hx4_0);(try clear hx5_0);(try clear hx5_1);(try clear hx5_2);(try clear hx5_3);(try clear p2);(try clear p4);(try clear p5);(try clear p6);(try clear q4);(try clear q5);obtain ⟨x56_4,rfl,HA,HK4,HO_9,HO_13,HO_54,HB⟩:=hrel
                cases gk with
                | zero=>exact absurd HA.out (by simp [impl_blockOk.l1])
                | succ k4 =>
                 have H:=HA.out;clear HA;simp only [impl_blockOk.l1] at H;by_cases c26 : x56_4 < (t6.length : Int)
                 ·rw [if_pos c26] at H
                  have c26b0 : decide (x56_4 < (t6.length : Int)) = true:=decide_eq_true c26;clear c26;by_cases c27 : 0 ≤ x56_4
                  ·rw [if_pos c27] at H
                   have c27b0 : decide (0 ≤ x56_4) = true:=decide_eq_true c27;clear c27;by_cases c28 : x56_4 < (t6.length : Int)
                   ·rw [if_pos c28] at H
                    have c28b0 : decide (x56_4 < (t6.length : Int)) = true:=decide_eq_true c28;clear c28;replace H:=Option.bind_eq_some_iff.mp H;obtain ⟨t11,A290,H⟩:=H;(try dsimp only at H);have A29:=a0_ A290;clear A290;replace H:=Option.bind_eq_some_iff.mp H;obtain ⟨t12,A300,H⟩:=H;(try dsimp only at H);have A30:=a0_ A300;clear A300;by_cases c31 : t12 = true
                    ·subst c31
                     have H1 : (impl_blockOk.l1 k4 l0 a3 t1 x10_1 t6 t6 (t6.length : Int) (wrap64 (x56_4 + 1))) = some r:=by rw [if_pos rfl] at H;exact H
                     clear H;have H:=H1;clear H1;have H':=a0_ H;clear H;have p10 : 0 ≤ (x56_4 : Int):=od_;have q10 : x56_4 < (t6.length : Int):=od_;obtain ⟨ad10,e10,hx10_0⟩:=Kd.at_int (Kd.R_reads' HO_54.out).2.2 x56_4 p10 q10;cases e10;replace p10:=eq_true p10;replace q10:=eq_true q10;go_wp2_with (first | ((with_reducible refine gate_callee (f:=144) rfl ?_);refine goesL_ (some 65) rfl rfl Try.func144 (by kernel_rfl) rfl #[.slice (some ad5) l0.length c0,.int .i64 (rd t6 x56_4)] rfl lm_ ?_;(with_reducible refine (impl_endOf.calls k4 _ _ l0 (rd t6 x56_4) t11 _ ?side1 ?side2 A29.out).mono ?_);(case side1=>exact cc_ (Kd.C_below HR0.out HB.out));(case side2=>exact HC0.out);rintro e w' ⟨rfl,⟨nd,rfl⟩⟩;refine ⟨_,rfl,?_⟩) | ((with_reducible refine gate_callee (f:=100) rfl ?_);refine goesL_ (some 67) rfl rfl Try.func100 (by kernel_rfl) rfl #[.slice (some ad5) l0.length c0,.int .i64 (wrap64 ((rd t6 x56_4) + 1)),.int .i64 t11,.bool a3] rfl lm_ ?_;(with_reducible refine (ih k4 (by have:=HK1.out;have:=HJ10.out;have:=HJ15.out;have:=HK4.out;omega) _ _ l0 (wrap64 ((rd t6 x56_4) + 1)) t11 a3 true _ ?side1 ?side2 A30.out).mono ?_);(case side1=>repeat (first | exact (Kd.C_below HR0.out hbw_) | (with_reducible refine Kd.C_alloc ?_ _) | (with_reducible refine Kd.C_drewN ?_ _) | (with_reducible refine Kd.C_drew ?_)));(case side2=>exact HC0.out);rintro e w32 ⟨rfl,hb⟩;refine ⟨_,rfl,?_⟩;replace HO_9:=rb_ HO_9 hb;replace HO_13:=rb_ HO_13 hb;replace HO_54:=rb_ HO_54 hb;replace HB:=a0_ (below_step hbw_ hb);(try clear hb);(try clear hb2);(try clear hk);(try clear hi)));go_roundg k4
                     case measure=>have:=HK1.out;have:=HJ10.out;have:=HJ15.out;have:=HK4.out;omega
                     case rel=>exact ⟨(wrap64 (x56_4 + 1)),(by first | rfl | (simp;done) | (simp [*];done)),H',⟨by have:=HK1.out;have:=HJ10.out;have:=HJ15.out;have:=HK4.out;omega⟩,⟨by (with_reducible repeat (first | apply Kd.R_alloc | apply Kd.R_drewN | apply Kd.R_drew));exact HO_9.out⟩,⟨by (with_reducible repeat (first | apply Kd.R_alloc | apply Kd.R_drewN | apply Kd.R_drew));exact HO_13.out⟩,⟨by (with_reducible repeat (first | apply Kd.R_alloc | apply Kd.R_drewN | apply Kd.R_drew));exact HO_54.out⟩,⟨hbw_⟩⟩
                    ·replace c31:=Bool.eq_false_iff.mpr c31
                     subst c31
                     have H1 : (some false) = some r:=by rw [if_neg (show ¬ (false = true) by decide)] at H;exact H
                     clear H;have H:=H1;clear H1;obtain rfl:=Option.some.inj H;have p10 : 0 ≤ (x56_4 : Int):=od_;have q10 : x56_4 < (t6.length : Int):=od_;obtain ⟨ad10,e10,hx10_0⟩:=Kd.at_int (Kd.R_reads' HO_54.out).2.2 x56_4 p10 q10;cases e10;replace p10:=eq_true p10;replace q10:=eq_true q10;go_wp2_with (first | ((with_reducible refine gate_callee (f:=144) rfl ?_);refine goesL_ (some 65) rfl rfl Try.func144 (by kernel_rfl) rfl #[.slice (some ad5) l0.length c0,.int .i64 (rd t6 x56_4)] rfl lm_ ?_;(with_reducible refine (impl_endOf.calls k4 _ _ l0 (rd t6 x56_4) t11 _ ?side1 ?side2 A29.out).mono ?_);(case side1=>exact cc_ (Kd.C_below HR0.out HB.out));(case side2=>exact HC0.out);rintro e w' ⟨rfl,⟨nd,rfl⟩⟩;refine ⟨_,rfl,?_⟩) | ((with_reducible refine gate_callee (f:=100) rfl ?_);refine goesL_ (some 67) rfl rfl Try.func100 (by kernel_rfl) rfl #[.slice (some ad5) l0.length c0,.int .i64 (wrap64 ((rd t6 x56_4) + 1)),.int .i64 t11,.bool a3] rfl lm_ ?_;(with_reducible refine (ih k4 (by have:=HK1.out;have:=HJ10.out;have:=HJ15.out;have:=HK4.out;omega) _ _ l0 (wrap64 ((rd t6 x56_4) + 1)) t11 a3 false _ ?side1 ?side2 A30.out).mono ?_);(case side1=>repeat (first | exact (Kd.C_below HR0.out hbw_) | (with_reducible refine Kd.C_alloc ?_ _) | (with_reducible refine Kd.C_drewN ?_ _) | (with_reducible refine Kd.C_drew ?_)));(case side2=>exact HC0.out);rintro e w33 ⟨rfl,hb⟩;refine ⟨_,rfl,?_⟩;replace HO_9:=rb_ HO_9 hb;replace HO_13:=rb_ HO_13 hb;replace HO_54:=rb_ HO_54 hb;replace HB:=a0_ (below_step hbw_ hb);(try clear hb);(try clear hb2);(try clear hk);(try clear hi)));go_ret;exact ⟨by first | rfl | (simp [errW_none,errW_some] <;> rfl) | (simp [*,errW_none,errW_some] <;> rfl),hbw_⟩
                   ·rw [if_neg c28] at H
                    exact absurd H (by simp)
                  ·rw [if_neg c27] at H
                   exact absurd H (by simp)
                 ·rw [if_neg c26] at H
                  have c26b0 : decide (x56_4 < (t6.length : Int)) = false:=decide_eq_false c26;clear c26;have H':=a0_ H;clear H;go_wp2;go_roundg k4
                  case measure=>have:=HK1.out;have:=HJ10.out;have:=HJ15.out;have:=HK4.out;omega
                  case rel=>exact ⟨(wrap64 ((wrap64 (x10_1 + (wrap64 ((t6.length : Int) - 1)))) + 1)),(by first | rfl | (simp;done) | (simp [*];done)),H',⟨by have:=HK1.out;have:=HJ10.out;have:=HJ15.out;have:=HK4.out;omega⟩,⟨by (with_reducible repeat (first | apply Kd.R_alloc | apply Kd.R_drewN | apply Kd.R_drew));exact Kd.R_mono HO_9.out (fun _ hk=>trivial)⟩,⟨hbw_⟩⟩
              ·replace c23:=Bool.eq_false_iff.mpr c23
               subst c23
               have H1 : (some false) = some r:=by rw [if_neg (show ¬ (false = true) by decide)] at H;exact H
               clear H;have H:=H1;clear H1;obtain rfl:=Option.some.inj H;go_wp2_with (first | ((with_reducible refine gate_callee (f:=142) rfl ?_);refine goesL_ (some 49) rfl rfl Try.func142 (by kernel_rfl) rfl #[.slice (some ad5) l0.length c0,.int .i64 (rd t1 x10_1)] rfl lm_ ?_;(with_reducible refine (impl_tryFrom.calls kj15 _ _ l0 (rd t1 x10_1) t6 _ ?side1 ?side2 A21.out).mono ?_);(case side1=>exact cc_ (Kd.C_below HR0.out HB.out));(case side2=>exact HC0.out);rintro e w34 ⟨v7,rfl,ho0,hb⟩;refine ⟨_,rfl,?_⟩;have n0_:=a0_ (Kd.R_elder' (rr_ HO_9.out) (Kd.R_base ho0) hb);have n1_:=a0_ (Kd.R_lower (Kd.R_new' ho0 (Kd.R_lt (rr_ HO_9.out))) (below_size hbw_));have n2_:=a0_ (below_step hbw_ hb);clear HO_9 HB;have HO_9:=n0_;have HO8:=n1_;have HB:=n2_;clear n0_ n1_ n2_;(try clear hb);(try clear ho0);obtain ⟨Ao35,co35,eo35⟩:=Kd.R_slice HO8.out;subst eo35) | ((with_reducible refine gate_callee (f:=143) rfl ?_);refine goesL_ (some 52) rfl rfl Try.func143 (by kernel_rfl) rfl #[.slice (some ad5) l0.length c0,.slice Ao35 t6.length co35] rfl lm_ ?_;(with_reducible refine (impl_tryOk.calls kj15 _ _ l0 _ _ t6 false _ ?side1 ?side2 ?side3 ?side4 A22.out).mono ?_);(case side1=>exact cc_ (Kd.C_below HR0.out HB.out));(case side2=>exact HC0.out);(case side3=>exact cc_ (Kd.R_reads' HO8.out).2.2);(case side4=>exact (Kd.R_reads' HO8.out).2.1);rintro e w' ⟨rfl,⟨nd,rfl⟩⟩;refine ⟨_,rfl,?_⟩));go_ret;exact ⟨by first | rfl | (simp [errW_none,errW_some] <;> rfl) | (simp [*,errW_none,errW_some] <;> rfl),hbw_⟩
             ·rw [if_neg c20] at H
              have c20b0 : (((rd_T75 l0 (rd t1 x10_1)).f1) == 7) = false:=beq_eq_false_iff_ne.mpr c20;have c20b1 : (((rd_T75 l0 (rd t1 x10_1)).f1) != 7) = true:=bne_iff_ne.mpr c20;have HC36:=a0_ H;clear H;go_upto_if 75 with (fail);go_cut [75] (fun v75 wc=>∃ (kq : Nat) (x75_35 : Bool),v75 = .bool x75_35 ∧ Aside0 (impl_blockOk.j4 kq l0 a3 t1 x10_1 (rd t1 x10_1) ((rd_T75 l0 (rd t1 x10_1)).f1) x75_35 = some r) ∧ Aside0 (kq ≤ kj15) ∧ Aside0 (Kd.R (Kd.int .i64) 3 wc w.heap.size (fun _=>True) (.slice (some ad4) t1.length co12) t1) ∧ Aside0 (Below w.heap.size w wc))
              case first =>
               have H:=HC36.out;clear HC36;by_cases c37 : ((rd_T75 l0 (rd t1 x10_1)).f1) = 11
               ·rw [if_pos c37] at H
                have c37b0 : (((rd_T75 l0 (rd t1 x10_1)).f1) == 11) = true:=beq_iff_eq.mpr c37;have c37b1 : (((rd_T75 l0 (rd t1 x10_1)).f1) != 11) = false:=bne_eq_false_iff_eq.mpr c37;clear c37;(first | rw [c37b0] | (simp only [i64_w,i32_w];rw [c37b0]) | skip);have H':=a0_ H;clear H;go_wp2;go_meet
                case rel=>exact ⟨_,((((rd_T75 l0 (rd t1 x10_1)).f1) == 11)),(by first | rfl | (simp;done) | (simp [*];done)),H',⟨by have:=HK1.out;have:=HJ10.out;have:=HJ15.out;first | omega | exact Nat.le_refl _⟩,⟨by (with_reducible repeat (first | apply Kd.R_alloc | apply Kd.R_drewN | apply Kd.R_drew));exact HO_9.out⟩,⟨hbw_⟩⟩
               ·rw [if_neg c37] at H
                have c37b0 : (((rd_T75 l0 (rd t1 x10_1)).f1) == 11) = false:=beq_eq_false_iff_ne.mpr c37;have c37b1 : (((rd_T75 l0 (rd t1 x10_1)).f1) != 11) = true:=bne_iff_ne.mpr c37;(first | rw [c37b0] | (simp only [i64_w,i32_w];rw [c37b0]) | skip);have H':=a0_ H;clear H;go_wp2;go_meet
                case rel=>exact ⟨_,((((rd_T75 l0 (rd t1 x10_1)).f1) == 12)),(by first | rfl | (simp;done) | (simp [*];done)),H',⟨by have:=HK1.out;have:=HJ10.out;have:=HJ15.out;first | omega | exact Nat.le_refl _⟩,⟨by (with_reducible repeat (first | apply Kd.R_alloc | apply Kd.R_drewN | apply Kd.R_drew));exact HO_9.out⟩,⟨hbw_⟩⟩
              case rest =>
               clear HC36;(try clear c1);(try clear p1);(try clear q1);(try clear hx1);(try clear c2);(try clear p2);(try clear c3);(try clear p4);(try clear q4);(try clear hx4);(try clear p5);(try clear q5);(try clear hx5);(try clear p6);(try clear c7);(try clear c7b0);(try clear c8);(try clear c8b0);(try clear c9);(try clear c9b0);(try clear c10);(try clear c10b0);(try clear p10);(try clear q10);(try clear hx10);(try clear c13);(try clear c13b0);(try clear c13b1);(try clear c14);(try clear c15);(try clear c17);(try clear c17b0);(try clear c17b1);(try clear c18);(try clear c18b0);(try clear c18b1);(try clear c19);(try clear c20);(try clear c20b0);(try clear c20b1);(try clear c23);(try clear c26);(try clear c26b0);(try clear c27);(try clear c27b0);(try clear c28);(try clear c28b0);(try clear c31);(try clear c37);(try clear c37b0);(try clear c37b1);(try clear hx10_0);(try clear hx4_0);(try clear hx5_0);(try clear hx5_1);(try clear hx5_2);(try clear hx5_3);(try clear p10);(try clear p2);(try clear p4);(try clear p5);(try clear p6);(try clear q10);(try clear q4);(try clear q5);obtain ⟨kq,x75_35,rfl,HA,HJ35,HO_9,HB⟩:=hcut
               cases kq with
               | zero=>exact absurd HA.out (by simp [impl_blockOk.j4])
               | succ kj35 =>
                have H:=HA.out;clear HA;simp only [impl_blockOk.j4] at H;by_cases c38 : x75_35 = true
                ·subst c38
                 have H1 : ((impl_endOf.f kj35 l0 (rd t1 x10_1)).bind fun t13=>(if a3 = true then ((impl_blockOk.f kj35 l0 (wrap64 ((rd t1 x10_1) + 1)) t13 true).bind fun t14=>(if t14 = true then (impl_blockOk.l0 kj35 l0 a3 t1 (wrap64 (x10_1 + 1))) else (some false))) else ((impl_blockOk.f kj35 l0 (wrap64 ((rd t1 x10_1) + 1)) t13 (((rd_T75 l0 (rd t1 x10_1)).f1) == 12)).bind fun t15=>(if t15 = true then (impl_blockOk.l0 kj35 l0 a3 t1 (wrap64 (x10_1 + 1))) else (some false))))) = some r:=by rw [if_pos rfl] at H;exact H
                 clear H;have H:=H1;clear H1;replace H:=Option.bind_eq_some_iff.mp H;obtain ⟨t13,A390,H⟩:=H;(try dsimp only at H);have A39:=a0_ A390;clear A390;by_cases c40 : a3 = true
                 ·subst c40
                  have H1 : ((impl_blockOk.f kj35 l0 (wrap64 ((rd t1 x10_1) + 1)) t13 true).bind fun t14=>(if t14 = true then (impl_blockOk.l0 kj35 l0 true t1 (wrap64 (x10_1 + 1))) else (some false))) = some r:=by rw [if_pos rfl] at H;exact H
                  clear H;have H:=H1;clear H1;replace H:=Option.bind_eq_some_iff.mp H;obtain ⟨t14,A410,H⟩:=H;(try dsimp only at H);have A41:=a0_ A410;clear A410;by_cases c42 : t14 = true
                  ·subst c42
                   have H1 : (impl_blockOk.l0 kj35 l0 true t1 (wrap64 (x10_1 + 1))) = some r:=by rw [if_pos rfl] at H;exact H
                   clear H;have H:=H1;clear H1;have H':=a0_ H;clear H;go_wp2_with (first | ((with_reducible refine gate_callee (f:=144) rfl ?_);refine goesL_ (some 83) rfl rfl Try.func144 (by kernel_rfl) rfl #[.slice (some ad5) l0.length c0,.int .i64 (rd t1 x10_1)] rfl lm_ ?_;(with_reducible refine (impl_endOf.calls kj35 _ _ l0 (rd t1 x10_1) t13 _ ?side1 ?side2 A39.out).mono ?_);(case side1=>exact cc_ (Kd.C_below HR0.out HB.out));(case side2=>exact HC0.out);rintro e w' ⟨rfl,⟨nd,rfl⟩⟩;refine ⟨_,rfl,?_⟩) | ((with_reducible refine gate_callee (f:=100) rfl ?_);refine goesL_ (some 89) rfl rfl Try.func100 (by kernel_rfl) rfl #[.slice (some ad5) l0.length c0,.int .i64 (wrap64 ((rd t1 x10_1) + 1)),.int .i64 t13,.bool true] rfl lm_ ?_;(with_reducible refine (ih kj35 (by have:=HK1.out;have:=HJ10.out;have:=HJ15.out;have:=HJ35.out;omega) _ _ l0 (wrap64 ((rd t1 x10_1) + 1)) t13 true true _ ?side1 ?side2 A41.out).mono ?_);(case side1=>repeat (first | exact (Kd.C_below HR0.out hbw_) | (with_reducible refine Kd.C_alloc ?_ _) | (with_reducible refine Kd.C_drewN ?_ _) | (with_reducible refine Kd.C_drew ?_)));(case side2=>exact HC0.out);rintro e w43 ⟨rfl,hb⟩;refine ⟨_,rfl,?_⟩;replace HO_9:=rb_ HO_9 hb;replace HB:=a0_ (below_step hbw_ hb);(try clear hb);(try clear hb2);(try clear hk);(try clear hi)));go_roundg kj35
                   case measure=>have:=HK1.out;have:=HJ10.out;have:=HJ15.out;have:=HJ35.out;omega
                   case rel=>exact ⟨(wrap64 (x10_1 + 1)),(by first | rfl | (simp;done) | (simp [*];done)),H',⟨by have:=HK1.out;have:=HJ10.out;have:=HJ15.out;have:=HJ35.out;omega⟩,⟨by (with_reducible repeat (first | apply Kd.R_alloc | apply Kd.R_drewN | apply Kd.R_drew));exact HO_9.out⟩,⟨hbw_⟩⟩
                  ·replace c42:=Bool.eq_false_iff.mpr c42
                   subst c42
                   have H1 : (some false) = some r:=by rw [if_neg (show ¬ (false = true) by decide)] at H;exact H
                   clear H;have H:=H1;clear H1;obtain rfl:=Option.some.inj H;go_wp2_with (first | ((with_reducible refine gate_callee (f:=144) rfl ?_);refine goesL_ (some 83) rfl rfl Try.func144 (by kernel_rfl) rfl #[.slice (some ad5) l0.length c0,.int .i64 (rd t1 x10_1)] rfl lm_ ?_;(with_reducible refine (impl_endOf.calls kj35 _ _ l0 (rd t1 x10_1) t13 _ ?side1 ?side2 A39.out).mono ?_);(case side1=>exact cc_ (Kd.C_below HR0.out HB.out));(case side2=>exact HC0.out);rintro e w' ⟨rfl,⟨nd,rfl⟩⟩;refine ⟨_,rfl,?_⟩) | ((with_reducible refine gate_callee (f:=100) rfl ?_);refine goesL_ (some 89) rfl rfl Try.func100 (by kernel_rfl) rfl #[.slice (some ad5) l0.length c0,.int .i64 (wrap64 ((rd t1 x10_1) + 1)),.int .i64 t13,.bool true] rfl lm_ ?_;(with_reducible refine (ih kj35 (by have:=HK1.out;have:=HJ10.out;have:=HJ15.out;have:=HJ35.out;omega) _ _ l0 (wrap64 ((rd t1 x10_1) + 1)) t13 true false _ ?side1 ?side2 A41.out).mono ?_);(case side1=>repeat (first | exact (Kd.C_below HR0.out hbw_) | (with_reducible refine Kd.C_alloc ?_ _) | (with_reducible refine Kd.C_drewN ?_ _) | (with_reducible refine Kd.C_drew ?_)));(case side2=>exact HC0.out);rintro e w44 ⟨rfl,hb⟩;refine ⟨_,rfl,?_⟩;replace HO_9:=rb_ HO_9 hb;replace HB:=a0_ (below_step hbw_ hb);(try clear hb);(try clear hb2);(try clear hk);(try clear hi)));go_ret;exact ⟨by first | rfl | (simp [errW_none,errW_some] <;> rfl) | (simp [*,errW_none,errW_some] <;> rfl),hbw_⟩
                 ·replace c40:=Bool.eq_false_iff.mpr c40
                  subst c40
                  have H1 : ((impl_blockOk.f kj35 l0 (wrap64 ((rd t1 x10_1) + 1)) t13 (((rd_T75 l0 (rd t1 x10_1)).f1) == 12)).bind fun t15=>(if t15 = true then (impl_blockOk.l0 kj35 l0 false t1 (wrap64 (x10_1 + 1))) else (some false))) = some r:=by rw [if_neg (show ¬ (false = true) by decide)] at H;exact H
                  clear H;have H:=H1;clear H1;replace H:=Option.bind_eq_some_iff.mp H;obtain ⟨t15,A450,H⟩:=H;(try dsimp only at H);have A45:=a0_ A450;clear A450;by_cases c46 : t15 = true
                  ·subst c46
                   have H1 : (impl_blockOk.l0 kj35 l0 false t1 (wrap64 (x10_1 + 1))) = some r:=by rw [if_pos rfl] at H;exact H
                   clear H;have H:=H1;clear H1;have H':=a0_ H;clear H;go_wp2_with (first | ((with_reducible refine gate_callee (f:=144) rfl ?_);refine goesL_ (some 83) rfl rfl Try.func144 (by kernel_rfl) rfl #[.slice (some ad5) l0.length c0,.int .i64 (rd t1 x10_1)] rfl lm_ ?_;(with_reducible refine (impl_endOf.calls kj35 _ _ l0 (rd t1 x10_1) t13 _ ?side1 ?side2 A39.out).mono ?_);(case side1=>exact cc_ (Kd.C_below HR0.out HB.out));(case side2=>exact HC0.out);rintro e w' ⟨rfl,⟨nd,rfl⟩⟩;refine ⟨_,rfl,?_⟩) | ((with_reducible refine gate_callee (f:=100) rfl ?_);refine goesL_ (some 89) rfl rfl Try.func100 (by kernel_rfl) rfl #[.slice (some ad5) l0.length c0,.int .i64 (wrap64 ((rd t1 x10_1) + 1)),.int .i64 t13,.bool (((rd_T75 l0 (rd t1 x10_1)).f1) == 12)] rfl lm_ ?_;(with_reducible refine (ih kj35 (by have:=HK1.out;have:=HJ10.out;have:=HJ15.out;have:=HJ35.out;omega) _ _ l0 (wrap64 ((rd t1 x10_1) + 1)) t13 (((rd_T75 l0 (rd t1 x10_1)).f1) == 12) true _ ?side1 ?side2 A45.out).mono ?_);(case side1=>repeat (first | exact (Kd.C_below HR0.out hbw_) | (with_reducible refine Kd.C_alloc ?_ _) | (with_reducible refine Kd.C_drewN ?_ _) | (with_reducible refine Kd.C_drew ?_)));(case side2=>exact HC0.out);rintro e w47 ⟨rfl,hb⟩;refine ⟨_,rfl,?_⟩;replace HO_9:=rb_ HO_9 hb;replace HB:=a0_ (below_step hbw_ hb);(try clear hb);(try clear hb2);(try clear hk);(try clear hi)));go_roundg kj35
                   case measure=>have:=HK1.out;have:=HJ10.out;have:=HJ15.out;have:=HJ35.out;omega
                   case rel=>exact ⟨(wrap64 (x10_1 + 1)),(by first | rfl | (simp;done) | (simp [*];done)),H',⟨by have:=HK1.out;have:=HJ10.out;have:=HJ15.out;have:=HJ35.out;omega⟩,⟨by (with_reducible repeat (first | apply Kd.R_alloc | apply Kd.R_drewN | apply Kd.R_drew));exact HO_9.out⟩,⟨hbw_⟩⟩
                  ·replace c46:=Bool.eq_false_iff.mpr c46
                   subst c46
                   have H1 : (some false) = some r:=by rw [if_neg (show ¬ (false = true) by decide)] at H;exact H
                   clear H;have H:=H1;clear H1;obtain rfl:=Option.some.inj H;go_wp2_with (first | ((with_reducible refine gate_callee (f:=144) rfl ?_);refine goesL_ (some 83) rfl rfl Try.func144 (by kernel_rfl) rfl #[.slice (some ad5) l0.length c0,.int .i64 (rd t1 x10_1)] rfl lm_ ?_;(with_reducible refine (impl_endOf.calls kj35 _ _ l0 (rd t1 x10_1) t13 _ ?side1 ?side2 A39.out).mono ?_);(case side1=>exact cc_ (Kd.C_below HR0.out HB.out));(case side2=>exact HC0.out);rintro e w' ⟨rfl,⟨nd,rfl⟩⟩;refine ⟨_,rfl,?_⟩) | ((with_reducible refine gate_callee (f:=100) rfl ?_);refine goesL_ (some 89) rfl rfl Try.func100 (by kernel_rfl) rfl #[.slice (some ad5) l0.length c0,.int .i64 (wrap64 ((rd t1 x10_1) + 1)),.int .i64 t13,.bool (((rd_T75 l0 (rd t1 x10_1)).f1) == 12)] rfl lm_ ?_;(with_reducible refine (ih kj35 (by have:=HK1.out;have:=HJ10.out;have:=HJ15.out;have:=HJ35.out;omega) _ _ l0 (wrap64 ((rd t1 x10_1) + 1)) t13 (((rd_T75 l0 (rd t1 x10_1)).f1) == 12) false _ ?side1 ?side2 A45.out).mono ?_);(case side1=>repeat (first | exact (Kd.C_below HR0.out hbw_) | (with_reducible refine Kd.C_alloc ?_ _) | (with_reducible refine Kd.C_drewN ?_ _) | (with_reducible refine Kd.C_drew ?_)));(case side2=>exact HC0.out);rintro e w48 ⟨rfl,hb⟩;refine ⟨_,rfl,?_⟩;replace HO_9:=rb_ HO_9 hb;replace HB:=a0_ (below_step hbw_ hb);(try clear hb);(try clear hb2);(try clear hk);(try clear hi)));go_ret;exact ⟨by first | rfl | (simp [errW_none,errW_some] <;> rfl) | (simp [*,errW_none,errW_some] <;> rfl),hbw_⟩
                ·replace c38:=Bool.eq_false_iff.mpr c38
                 subst c38
                 have H1 : (impl_blockOk.l0 kj35 l0 a3 t1 (wrap64 (x10_1 + 1))) = some r:=by rw [if_neg (show ¬ (false = true) by decide)] at H;exact H
                 clear H;have H:=H1;clear H1;have H':=a0_ H;clear H;go_wp2;go_roundg kj35
                 case measure=>have:=HK1.out;have:=HJ10.out;have:=HJ15.out;have:=HJ35.out;omega
                 case rel=>exact ⟨(wrap64 (x10_1 + 1)),(by first | rfl | (simp;done) | (simp [*];done)),H',⟨by have:=HK1.out;have:=HJ10.out;have:=HJ15.out;have:=HJ35.out;omega⟩,⟨by (with_reducible repeat (first | apply Kd.R_alloc | apply Kd.R_drewN | apply Kd.R_drew));exact HO_9.out⟩,⟨hbw_⟩⟩
      ·rw [if_neg c10] at H
       exact absurd H (by simp)
     ·rw [if_neg c9] at H
      exact absurd H (by simp)
    ·rw [if_neg c8] at H
     exact absurd H (by simp)
   ·rw [if_neg c7] at H
    have c7b0 : decide (x10_1 < (t1.length : Int)) = false:=decide_eq_false c7;clear c7;obtain rfl:=Option.some.inj H;obtain ⟨Ao49,co49,eo49⟩:=Kd.R_slice HO_9.out;subst eo49;go_wp2;go_ret;exact ⟨by first | rfl | (simp [errW_none,errW_some] <;> rfl) | (simp [*,errW_none,errW_some] <;> rfl),hbw_⟩
set_option maxHeartbeats 4000000 in
theorem blk_inner {l : List S75} (hl0 : Aside0 (l.length ≤ 1099511627776)) (hS : StL l) {a t : Nat} {d : Int} {lp : Bool} (ht : t ≤ l.length) (hge : ∀ j,a ≤ j → j < t → d ≤ ld l j) (hend : t < l.length → ld l t < d) (hlp : inL l a d = lp)
  (hI : ∀ c,a ≤ c → c < t → ld l c = d → 7 ≤ lk l c → lk l c ≤ 12 → ∃ b,Ev (fun k=>impl_blockOk.f k l ((c + 1 : Nat) : Int) ((endN l c : Nat) : Int) (lp || decide (lk l c = 12))) b ∧ (b = true ↔ ∀ j,c < j → j < endN l c → lineOk l j))
  (L : List Nat) (hLl0 : Aside0 (L.length ≤ 1099511627776)) : ∀ (f i m : Nat),t - i ≤ f → a ≤ i → i ≤ t → (i < t → ld l i = d) → L.drop m = sib l t i → m ≤ L.length → (i < t → 8 ≤ lk l i → lk l i ≤ 10 → ¬ lineOk l i) →
  ∃ b,Ev (fun k=>impl_blockOk.l0 k l lp (nI L) (m : Int)) b ∧ (b = true ↔ ∀ j,i ≤ j → j < t → lineOk l j):=by
 intro f
 induction f using Nat.strongRecOn with
 | _ f ih =>
 intro i m h1 h2 h3 h4 h5 h6 h7
 by_cases hit : i < t
 ·have hd:=h4 hit
  have hg:=endN_gt l i
  rw [sib_pos hit] at h5
  obtain ⟨hm,hmi,hdr⟩:=drop_cons_ h5.symm
  have hw : Aside0 (wrap64 ((m : Int) + 1) = ((m + 1 : Nat) : Int)):=⟨wrap_nat_ hm hLl0.out⟩
  have hwi : Aside0 (wrap64 ((i : Int) + 1) = ((i + 1 : Nat) : Int)):=⟨wrap_nat_ (n:=l.length) (Nat.lt_of_lt_of_le hit ht) hl0.out⟩
  have het : endN l i ≤ t:=by
   refine Nat.le_of_not_lt (fun hlt=>?_)
   have:=endN_in (l:=l) (i:=i) (j:=t) hit hlt
   have:=hend (by have:=endN_le (l:=l) (i:=i) (by omega);omega)
   omega
  have hnd : endN l i < t → ld l (endN l i) = d:=fun hlt=>by
   have q1:=endN_at (l:=l) (i:=i) (by omega) (by omega)
   have q2:=hge (endN l i) (by omega) hlt
   omega
  have hhead : hdL l (endN l i) d = (i : Int):=hdL_end l d i hd
  have hLoop : inL l i d = lp:=by rw [inL_skip l d a i h2 (fun j hj hj2=>hge j hj (by omega))];exact hlp
  have next : ¬ (7 ≤ lk l i ∧ lk l i ≤ 10) → ∃ b,Ev (fun k=>impl_blockOk.l0 k l lp (nI L) ((m + 1 : Nat) : Int)) b ∧ (b = true ↔ ∀ j,endN l i ≤ j → j < t → lineOk l j):=by
   intro hk
   refine ih (t - endN l i) (by omega) (endN l i) (m + 1) (Nat.le_refl _) (by omega) het hnd hdr.symm (by omega) (fun hlt _ _ hok=>?_)
   obtain ⟨h,q1,q2,q3⟩:=hok.2.2 (by omega) (by omega)
   rw [hnd hlt,hhead] at q1
   obtain rfl : i = h:=by omega
   exact hk ⟨q2,q3⟩
  have enter : ∀ {b : Bool},Ev (fun k=>impl_blockOk.j1 k l lp (nI L) (m : Int) (i : Int) (lk l i) (lk l i) (decide (lk l i = 5 ∨ lk l i = 6))) b → Ev (fun k=>impl_blockOk.l0 k l lp (nI L) (m : Int)) b:=by
   intro b hb
   refine Ev.succ ?_
   simp only [impl_blockOk.l0,rd_nI,hmi,rd_lk_]
   refine Ev.pos (by rw [nI_len];omega) (Ev.pos (by omega) (Ev.pos (by omega) (Ev.pos (by omega) ?_)))
   by_cases h5k : lk l i = 5
   ·refine Ev.pos h5k ?_
    rw [show (decide (lk l i = 5 ∨ lk l i = 6)) = (lk l i == 5) by simp [h5k]] at hb
    exact hb
   ·refine Ev.neg h5k ?_
    rw [show (decide (lk l i = 5 ∨ lk l i = 6)) = (lk l i == 6) by by_cases h6k : lk l i = 6 <;> simp [h5k,h6k]] at hb
    exact hb
  by_cases h56 : lk l i = 5 ∨ lk l i = 6
  ·have e1:=endN_no hS (i:=i) (by omega) (by omega)
   cases hlpv : lp with
   | true =>
    obtain ⟨b,hb,hbi⟩:=next (by omega)
    rw [hlpv] at hb
    refine ⟨b,?_,?_⟩
    ·rw [← hlpv]
     refine enter ?_
     rw [hlpv]
     refine Ev.succ ?_
     simp only [impl_blockOk.j1,hw.out]
     exact Ev.pos (by simp [h56]) (Ev.pos (by simp) hb)
    ·rw [hbi]
     constructor
     ·intro h j hj hj2
      by_cases e : j = i
      ·subst e
       exact ⟨fun q=>by omega,fun _=>by rw [hd,hLoop,hlpv],fun q=>by omega⟩
      ·exact h j (by omega) hj2
     ·exact fun h j hj hj2=>h j (by omega) hj2
   | false =>
    refine ⟨false,?_,?_⟩
    ·rw [← hlpv]
     refine enter ?_
     rw [hlpv]
     refine Ev.succ ?_
     simp only [impl_blockOk.j1,hw.out]
     exact Ev.pos (by simp [h56]) (Ev.neg (by simp) (Ev.const rfl))
    ·refine ⟨fun h=>by simp at h,fun h=>?_⟩
     have:=(h i (Nat.le_refl _) hit).2.1 h56
     rw [hd,hLoop,hlpv] at this
     simp at this
  have hF56 : decide (lk l i = 5 ∨ lk l i = 6) = false:=by simpa using h56
  have enter2 : ∀ {b : Bool},Ev (fun k=>impl_blockOk.j2 k l lp (nI L) (m : Int) (i : Int) (lk l i) (lk l i) (decide (8 ≤ lk l i ∧ lk l i ≤ 10))) b → Ev (fun k=>impl_blockOk.l0 k l lp (nI L) (m : Int)) b:=by
   intro b hb
   refine enter ?_
   rw [hF56]
   refine Ev.succ ?_
   simp only [impl_blockOk.j1]
   refine Ev.neg (by simp) ?_
   by_cases h8k : lk l i = 8
   ·refine Ev.pos h8k ?_
    rw [show (decide (8 ≤ lk l i ∧ lk l i ≤ 10)) = (lk l i == 8) by rw [h8k];decide] at hb
    exact hb
   ·refine Ev.neg h8k ?_
    by_cases h9k : lk l i = 9
    ·refine Ev.pos h9k ?_
     rw [show (decide (8 ≤ lk l i ∧ lk l i ≤ 10)) = (lk l i == 9) by rw [h9k];decide] at hb
     exact hb
    ·refine Ev.neg h9k ?_
     rw [show (decide (8 ≤ lk l i ∧ lk l i ≤ 10)) = (lk l i == 10) by
      by_cases h10k : lk l i = 10
      ·rw [h10k];decide
      ·rw [beq_eq_false_iff_ne.2 h10k];exact decide_eq_false (by omega)] at hb
     exact hb
  by_cases hfo : 8 ≤ lk l i ∧ lk l i ≤ 10
  ·refine ⟨false,enter2 ?_,fun h=>by simp at h,fun h=>absurd (h i (Nat.le_refl _) hit) (h7 hit hfo.1 hfo.2)⟩
   refine Ev.succ ?_
   simp only [impl_blockOk.j2]
   exact Ev.pos (by simpa using hfo) (Ev.const rfl)
  have hFfo : decide (8 ≤ lk l i ∧ lk l i ≤ 10) = false:=decide_eq_false hfo
  by_cases h7k : lk l i = 7
  ·
   have hT:=impl_tryFrom_ev l i (by omega) hl0.out
   have hRm:=chR_mem l l.length i
   have hRl:=chR_len l l.length i
   have hO:=impl_tryOk_ev l i (chR l l.length i) (fun c hc=>(hRm c hc).1) (Nat.le_trans hRl hl0.out)
   have hchk : (decide (1 ≤ (chR l l.length i).length) && okR l (chR l l.length i) 0 7) = chOk l i:=rfl
   rw [hchk] at hO
   obtain ⟨i',q1,q2,q3,q4,q5,q6,q7⟩:=chain_walk (a:=a) ht hge hend l.length i (by omega) h2 hit hd (by omega) (by omega)
   generalize hR : chR l l.length i = R at hT hO q1 q5 q6 q7 hRl
   cases hc : chOk l i with
   | false =>
    refine ⟨false,enter2 ?_,fun h=>by simp at h,fun h=>?_⟩
    ·rw [hFfo]
     refine Ev.succ ?_
     simp only [impl_blockOk.j2]
     rw [hc] at hO
     exact Ev.neg (by simp) (Ev.pos h7k (Ev.bind hT (Ev.bind hO (Ev.neg (by simp) (Ev.const rfl)))))
    ·have:=(h i (Nat.le_refl _) hit).1 h7k
     rw [hc] at this
     simp at this
   | true =>
    have hdr2 : L.drop (m + 1 + R.length) = sib l t i':=by
     rw [← List.drop_drop,← hdr,q1,List.drop_left]
    have hml : m + 1 + R.length ≤ L.length:=by
     have e : (L.drop (m + 1)).length = (R ++ sib l t i').length:=by rw [← hdr,q1]
     rw [List.length_drop,List.length_append] at e
     omega
    obtain ⟨b0,hb0,hb0i⟩:=ih (t - i') (by omega) i' (m + 1 + R.length) (Nat.le_refl _) (by omega) q3 (fun h=>(q4 h).1) hdr2 hml (fun h q8 q10=>absurd ⟨q8,q10⟩ (q4 h).2)
    have hws : Aside0 (wrap64 (wrap64 ((m : Int) + wrap64 (((nI (i :: R)).length : Int) - 1)) + 1) = ((m + 1 + R.length : Nat) : Int)):=by
     constructor
     have hb1_:=hLl0.out
     rw [nI_len,List.length_cons,wrap_in (i:=((R.length + 1 : Nat) : Int) - 1) (by omega) (by omega),wrap_in (i:=(m : Int) + (((R.length + 1 : Nat) : Int) - 1)) (by omega) (by omega),wrap_in (by omega) (by omega)]
     omega
    have hmemT : ∀ x ∈ i :: R,a ≤ x ∧ x < t ∧ ld l x = d ∧ 7 ≤ lk l x ∧ lk l x ≤ 10:=by
     intro x hx
     rcases List.mem_cons.1 hx with rfl | hx
     ·exact ⟨h2,hit,hd,by omega,by omega⟩
     ·obtain ⟨r1,r2,r3,r4,r5,_⟩:=q5 x hx
      exact ⟨by omega,r2,r3,by omega,r5⟩
    have loop : ∀ (T2 : List Nat) (q : Nat),T2 = (i :: R).drop q → q ≤ (i :: R).length → ∃ b,Ev (fun k=>impl_blockOk.l1 k l lp (nI L) (m : Int) (nI (i :: R)) (nI (i :: R)) ((nI (i :: R)).length : Int) (q : Int)) b ∧ (b = true ↔ (∀ x ∈ T2,∀ j,x < j → j < endN l x → lineOk l j) ∧ b0 = true):=by
     intro T2
     induction T2 with
     | nil =>
      intro q hq hq2
      have : (i :: R).length ≤ q:=List.drop_eq_nil_iff.1 hq.symm
      refine ⟨b0,?_,by simp⟩
      refine Ev.succ ?_
      simp only [impl_blockOk.l1,hws.out]
      exact Ev.neg (by rw [nI_len];omega) hb0
     | cons x T2 ih2 =>
      intro q hq hq2
      obtain ⟨r1,r2,r3⟩:=drop_cons_ hq
      have hxm : x ∈ i :: R:=by
       have : x ∈ (i :: R).drop q:=by rw [← hq];exact List.mem_cons_self
       exact List.mem_of_mem_drop this
      obtain ⟨m1,m2,m3,m4,m5⟩:=hmemT x hxm
      have hxw : Aside0 (wrap64 ((x : Int) + 1) = ((x + 1 : Nat) : Int)):=⟨wrap_nat_ (n:=l.length) (Nat.lt_of_lt_of_le m2 ht) hl0.out⟩
      have hqw : Aside0 (wrap64 ((q : Int) + 1) = ((q + 1 : Nat) : Int)):=by
       constructor
       rw [List.length_cons] at r1
       have hb1_:=hl0.out
       rw [wrap_succ (i:=(q : Int)) (n:=(R.length : Int) + 1) (by omega) (by omega) (by omega)];rfl
      obtain ⟨bb,hbb,hbbi⟩:=hI x m1 m2 m3 m4 (by omega)
      rw [show decide (lk l x = 12) = false from decide_eq_false (by omega),Bool.or_false] at hbb
      obtain ⟨b2,hb2,hb2i⟩:=ih2 (q + 1) r3 (by rw [List.length_cons] at r1 ⊢;omega)
      have hen:=impl_endOf_ev l x (by omega) hl0.out
      cases hbv : bb with
      | true =>
       rw [hbv] at hbb hbbi
       refine ⟨b2,?_,?_⟩
       ·refine Ev.succ ?_
        simp only [impl_blockOk.l1,rd_nI,r2,hxw.out,hqw.out]
        exact Ev.pos (by rw [nI_len];omega) (Ev.pos (by omega) (Ev.pos (by rw [nI_len];omega) (Ev.bind hen (Ev.bind hbb (Ev.pos rfl hb2)))))
       ·rw [hb2i]
        constructor
        ·rintro ⟨s1,s2⟩
         refine ⟨fun y hy=>?_,s2⟩
         rcases List.mem_cons.1 hy with rfl | hy
         ·exact hbbi.1 rfl
         ·exact s1 y hy
        ·rintro ⟨s1,s2⟩
         exact ⟨fun y hy=>s1 y (List.mem_cons_of_mem _ hy),s2⟩
      | false =>
       rw [hbv] at hbb hbbi
       refine ⟨false,?_,?_⟩
       ·refine Ev.succ ?_
        simp only [impl_blockOk.l1,rd_nI,r2,hxw.out,hqw.out]
        exact Ev.pos (by rw [nI_len];omega) (Ev.pos (by omega) (Ev.pos (by rw [nI_len];omega) (Ev.bind hen (Ev.bind hbb (Ev.neg (by simp) (Ev.const rfl))))))
       ·refine ⟨fun h=>by simp at h,fun h=>?_⟩
        exact hbbi.2 (h.1 x List.mem_cons_self)
    obtain ⟨b,hb,hbi⟩:=loop (i :: R) 0 rfl (Nat.zero_le _)
    refine ⟨b,enter2 ?_,?_⟩
    ·rw [hFfo]
     refine Ev.succ ?_
     simp only [impl_blockOk.j2]
     rw [hc] at hO
     exact Ev.neg (by simp) (Ev.pos h7k (Ev.bind hT (Ev.bind hO (Ev.pos rfl hb))))
    ·rw [hbi,hb0i]
     constructor
     ·rintro ⟨s1,s2⟩ j hj hj2
      by_cases hj3 : j < i'
      ·rcases q7 j hj hj3 with hmem | ⟨x,hx,hx1,hx2⟩
       ·rcases List.mem_cons.1 hmem with rfl | hmem
        ·exact ⟨fun _=>hc,fun q=>by omega,fun q=>by omega⟩
        ·obtain ⟨_,_,r3,r4,r5,r6⟩:=q5 j hmem
         exact ⟨fun q=>by omega,fun q=>by omega,fun _ _=>by rw [r3];exact r6⟩
       ·exact s1 x hx j hx1 hx2
      ·exact s2 j (by omega) hj2
     ·intro h
      refine ⟨fun x hx j hj hj2=>?_,fun j hj hj2=>h j (by omega) hj2⟩
      have:=q6 x hx
      have hxi : i ≤ x:=by
       rcases List.mem_cons.1 hx with rfl | hx
       ·exact Nat.le_refl _
       ·have:=(q5 x hx).1;omega
      exact h j (by omega) (by omega)
  obtain ⟨b,hb,hbi⟩:=next (by omega)
  have enter3 : ∀ {b : Bool},Ev (fun k=>impl_blockOk.j4 k l lp (nI L) (m : Int) (i : Int) (lk l i) (decide (11 ≤ lk l i ∧ lk l i ≤ 12))) b → Ev (fun k=>impl_blockOk.l0 k l lp (nI L) (m : Int)) b:=by
   intro b hb
   refine enter2 ?_
   rw [hFfo]
   refine Ev.succ ?_
   simp only [impl_blockOk.j2]
   refine Ev.neg (by simp) (Ev.neg h7k ?_)
   by_cases h11 : lk l i = 11
   ·refine Ev.pos h11 ?_
    rw [show (decide (11 ≤ lk l i ∧ lk l i ≤ 12)) = (lk l i == 11) by rw [h11];decide] at hb
    exact hb
   ·refine Ev.neg h11 ?_
    rw [show (decide (11 ≤ lk l i ∧ lk l i ≤ 12)) = (lk l i == 12) by
     by_cases h12 : lk l i = 12
     ·rw [h12];decide
     ·rw [beq_eq_false_iff_ne.2 h12];exact decide_eq_false (by omega)] at hb
    exact hb
  have hself : lineOk l i:=⟨fun q=>absurd q h7k,fun q=>absurd q h56,fun q q'=>absurd ⟨q,q'⟩ hfo⟩
  by_cases hw12 : 11 ≤ lk l i ∧ lk l i ≤ 12
  ·obtain ⟨bb,hbb,hbbi⟩:=hI i h2 hit hd (by omega) hw12.2
   have hen:=impl_endOf_ev l i (by omega) hl0.out
   have body : ∀ {r : Bool},Ev (fun k=>if bb = true then impl_blockOk.l0 k l lp (nI L) ((m + 1 : Nat) : Int) else some false) r → Ev (fun k=>impl_blockOk.l0 k l lp (nI L) (m : Int)) r:=by
    intro r hr
    refine enter3 ?_
    rw [decide_eq_true hw12]
    refine Ev.succ ?_
    simp only [impl_blockOk.j4,hwi.out,hw.out]
    refine Ev.pos (by simp) (Ev.bind hen ?_)
    cases hlpv : lp with
    | true=>rw [hlpv,Bool.true_or] at hbb;rw [hlpv] at hr;exact Ev.pos (by simp) (Ev.bind hbb hr)
    | false =>
     rw [hlpv,Bool.false_or] at hbb
     rw [hlpv] at hr
     refine Ev.neg (by simp) (Ev.bind (x:=bb) ?_ hr)
     rw [show (lk l i == 12) = decide (lk l i = 12) from rfl]
     exact hbb
   cases hbv : bb with
   | true =>
    rw [hbv] at hbbi body
    refine ⟨b,body (Ev.pos rfl hb),?_⟩
    rw [hbi]
    constructor
    ·intro h j hj hj2
     by_cases e : j = i
     ·rw [e];exact hself
     ·by_cases e2 : j < endN l i
      ·exact hbbi.1 rfl j (by omega) e2
      ·exact h j (by omega) hj2
    ·exact fun h j hj hj2=>h j (by omega) hj2
   | false =>
    rw [hbv] at hbbi body
    refine ⟨false,body (Ev.neg (by simp) (Ev.const rfl)),fun h=>by simp at h,fun h=>?_⟩
    exact hbbi.2 (fun j hj hj2=>h j (by omega) (by omega))
  ·have e1:=endN_no hS (i:=i) (by omega) (by omega)
   refine ⟨b,enter3 ?_,?_⟩
   ·rw [decide_eq_false hw12]
    refine Ev.succ ?_
    simp only [impl_blockOk.j4,hw.out]
    exact Ev.neg (by simp) hb
   ·rw [hbi]
    constructor
    ·intro h j hj hj2
     by_cases e : j = i
     ·rw [e];exact hself
     ·exact h j (by omega) hj2
    ·exact fun h j hj hj2=>h j (by omega) hj2
 ·refine ⟨true,?_,⟨fun _ j hj hj2=>by omega,fun _=>rfl⟩⟩
  rw [sib_neg hit] at h5
  have : L.length ≤ m:=List.drop_eq_nil_iff.1 h5
  refine Ev.succ ?_
  simp only [impl_blockOk.l0]
  exact Ev.neg (by rw [nI_len];omega) (Ev.const rfl)
theorem impl_blockOk_ev {l : List S75} (hl : l.length ≤ 1099511627776) (hS : StL l) : ∀ (n a t : Nat) (d : Int) (lp : Bool),t - a ≤ n → a ≤ t → t ≤ l.length → (∀ j,a ≤ j → j < t → d ≤ ld l j) → (a < t → ld l a = d) → (t < l.length → ld l t < d) → inL l a d = lp → hdL l a d = -1 →
  ∃ b,Ev (fun k=>impl_blockOk.f k l (a : Int) (t : Int) lp) b ∧ (b = true ↔ ∀ j,a ≤ j → j < t → lineOk l j):=by
 intro n
 induction n with
 | zero =>
  intro a t d lp h1 h2 h3 h4 h5 h6 h7 h8
  obtain ⟨b,hb,hbi⟩:=blk_inner ⟨hl⟩ hS h3 h4 h6 h7 (fun c hc hc2=>by omega) (sib l t a) ⟨by unfold sib;have:=sibN_len l t (t - a) a;omega⟩ (t - a) a 0 (Nat.le_refl _) (Nat.le_refl _) h2 h5 rfl (Nat.zero_le _) (fun h=>by omega)
  refine ⟨b,Ev.succ ?_,hbi⟩
  simp only [impl_blockOk.f]
  exact Ev.bind (impl_siblings_ev l a t h3 hl) hb
 | succ n ih =>
  intro a t d lp h1 h2 h3 h4 h5 h6 h7 h8
  have hI : ∀ c,a ≤ c → c < t → ld l c = d → 7 ≤ lk l c → lk l c ≤ 12 → ∃ b,Ev (fun k=>impl_blockOk.f k l ((c + 1 : Nat) : Int) ((endN l c : Nat) : Int) (lp || decide (lk l c = 12))) b ∧ (b = true ↔ ∀ j,c < j → j < endN l c → lineOk l j):=by
   intro c hc hc2 hcd hk1 hk2
   have hg:=endN_gt l c
   have hcl : c < l.length:=Nat.lt_of_lt_of_le hc2 h3
   have hle:=endN_le (l:=l) (i:=c) hcl
   have het : endN l c ≤ t:=by
    refine Nat.le_of_not_lt (fun hlt=>?_)
    have:=endN_in (l:=l) (i:=c) (j:=t) hc2 hlt
    have:=h6 (by omega)
    omega
   obtain ⟨o1,o2⟩:=hS.op c hcl hk1 hk2
   obtain ⟨bb,hbb,hbbi⟩:=ih (c + 1) (endN l c) (d + 1) (lp || decide (lk l c = 12)) (by omega) (by omega) hle (fun j hj hj2=>by have:=endN_in (l:=l) (i:=c) (j:=j) (by omega) hj2;omega) (fun _=>by omega) (fun hlt=>by have:=endN_at (l:=l) (i:=c) hcl hlt;omega)
    (by
     have hin : inL l c d = lp:=by rw [inL_skip l d a c hc (fun j hj hj2=>h4 j hj (by omega))];exact h7
     rw [inL,if_pos (by omega)]
     by_cases h12 : lk l c = 12
     ·rw [if_pos h12];simp [h12]
     ·rw [if_neg h12,hcd,hin];simp [h12])
    (by rw [hdL,if_pos (by omega)])
   exact ⟨bb,hbb,hbbi.trans ⟨fun h j hj hj2=>h j (by omega) hj2,fun h j hj hj2=>h j (by omega) hj2⟩⟩
  have h0 : a < t → 8 ≤ lk l a → lk l a ≤ 10 → ¬ lineOk l a:=by
   intro h q1 q2 hok
   obtain ⟨x,r1,_,_⟩:=hok.2.2 q1 q2
   rw [h5 h,h8] at r1
   omega
  obtain ⟨b,hb,hbi⟩:=blk_inner ⟨hl⟩ hS h3 h4 h6 h7 hI (sib l t a) ⟨by unfold sib;have:=sibN_len l t (t - a) a;omega⟩ (t - a) a 0 (Nat.le_refl _) (Nat.le_refl _) h2 h5 rfl (Nat.zero_le _) h0
  refine ⟨b,Ev.succ ?_,hbi⟩
  simp only [impl_blockOk.f]
  exact Ev.bind (impl_siblings_ev l a t h3 hl) hb
end Go.Proofs.Ytacgehaipacehaa.P
namespace Go.Proofs.Ytacgehaipacehaa.P
open Go.RowKit Go.Proofs.YtacgehaipacehaaW.PrintWords Go.Proofs.YtacgehaipacehaaW.PrintLast Go.Proofs.YtacgehaipacehaaW.PrintMore
attribute [local go_sem] max2_int min2_int max_two min_two max_three min_three max_four min_four
set_option linter.unusedVariables false
set_option linter.unusedSimpArgs false
mutual
def impl_ValidProgram.j0 : Nat → List (S75) → Bool → List (S125) → Option (Bool)
 | 0,_,_,_=>none
 | k + 1,x1,x15,x2000=>if x15 = true then (some false) else (impl_ValidProgram.l0 k x1 x1 (x1.length : Int) 0 x2000 (-1) 7 0 0)
def impl_ValidProgram.l0 : Nat → List (S75) → List (S75) → Int → Int → List (S125) → Int → Int → Int → Int → Option (Bool)
 | 0,_,_,_,_,_,_,_,_,_=>none
 | k + 1,x1,x17,x18,x19,x2000,x4000,x4001,x4002,x4003=>if x19 < x18 then (if 0 ≤ x19 then (if x19 < (x17.length : Int) then ((impl_Line_argued.f k ((rd_T75 x17 x19).f0) ((rd_T75 x17 x19).f1) ((rd_T75 x17 x19).f2) ((rd_T75 x17 x19).f3) x2000).bind fun t9=>(if t9 = true then ((impl_within.f ((rd_T75 x17 x19).f0) 0 5).bind fun t10=>(if t10 = true then ((impl_Line_opens.f x4000 x4001 x4002 x4003).bind fun t11=>(if t11 = true then (if ((rd_T75 x17 x19).f0) = (wrap64 (x4000 + 1)) then ((impl_Line_opens.f x4000 x4001 x4002 x4003).bind fun t12=>(if t12 = true then (impl_ValidProgram.l0 k x1 x17 x18 (wrap64 (x19 + 1)) x2000 ((rd_T75 x17 x19).f0) ((rd_T75 x17 x19).f1) ((rd_T75 x17 x19).f2) ((rd_T75 x17 x19).f3)) else (if ((rd_T75 x17 x19).f0) > x4000 then (some false) else (impl_ValidProgram.l0 k x1 x17 x18 (wrap64 (x19 + 1)) x2000 ((rd_T75 x17 x19).f0) ((rd_T75 x17 x19).f1) ((rd_T75 x17 x19).f2) ((rd_T75 x17 x19).f3))))) else (some false)) else ((impl_Line_opens.f x4000 x4001 x4002 x4003).bind fun t13=>(if t13 = true then (impl_ValidProgram.l0 k x1 x17 x18 (wrap64 (x19 + 1)) x2000 ((rd_T75 x17 x19).f0) ((rd_T75 x17 x19).f1) ((rd_T75 x17 x19).f2) ((rd_T75 x17 x19).f3)) else (if ((rd_T75 x17 x19).f0) > x4000 then (some false) else (impl_ValidProgram.l0 k x1 x17 x18 (wrap64 (x19 + 1)) x2000 ((rd_T75 x17 x19).f0) ((rd_T75 x17 x19).f1) ((rd_T75 x17 x19).f2) ((rd_T75 x17 x19).f3))))))) else (some false))) else (some false))) else (none)) else (none)) else (if (x1.length : Int) = 0 then ((impl_blockOk.f k x1 0 (x1.length : Int) false).bind fun t4=>(some t4)) else ((impl_Line_opens.f x4000 x4001 x4002 x4003).bind fun t5=>(if t5 = true then (some false) else ((impl_blockOk.f k x1 0 (x1.length : Int) false).bind fun t6=>(some t6)))))
end
def impl_ValidProgram.f (k : Nat) (l0_0 : List (S125)) (l1 : List (S75)) : Option (Bool):=(impl_ValidTree.f l0_0).bind fun t2=>(if t2 = true then (impl_ValidProgram.j0 k l1 (decide ((l1.length : Int) > 24)) l0_0) else (impl_ValidProgram.j0 k l1 true l0_0))
theorem impl_ValidProgram.mono_l : ∀ k,(∀ y0 y1 y2,LeO (impl_ValidProgram.j0 k y0 y1 y2) (impl_ValidProgram.j0 (k + 1) y0 y1 y2)) ∧ (∀ y0 y1 y2 y3 y4 y5 y6 y7 y8,LeO (impl_ValidProgram.l0 k y0 y1 y2 y3 y4 y5 y6 y7 y8) (impl_ValidProgram.l0 (k + 1) y0 y1 y2 y3 y4 y5 y6 y7 y8))
 | 0=>⟨fun _ _ _ r h=>by simp [impl_ValidProgram.j0] at h,fun _ _ _ _ _ _ _ _ _ r h=>by simp [impl_ValidProgram.l0] at h⟩
 | k + 1=>by
  obtain ⟨ih0,ih1⟩:=impl_ValidProgram.mono_l k
  refine ⟨?_,?_⟩
  ·intro y0 y1 y2
   unfold impl_ValidProgram.j0
   repeat' first
   | (with_reducible exact ih0 _ _ _)
   | (with_reducible exact ih1 _ _ _ _ _ _ _ _ _)
   | (with_reducible exact impl_Line_argued.mono _ _ _ _ _ _)
   | (with_reducible exact impl_blockOk.mono _ _ _ _ _)
   | (with_reducible exact LeO.refl _)
   | (with_reducible exact LeO.none _)
   | (with_reducible refine LeO.ite ?_ ?_)
   | (with_reducible refine LeO.bind ?_ (fun _=>?_))
  ·intro y0 y1 y2 y3 y4 y5 y6 y7 y8
   unfold impl_ValidProgram.l0
   repeat' first
   | (with_reducible exact ih0 _ _ _)
   | (with_reducible exact ih1 _ _ _ _ _ _ _ _ _)
   | (with_reducible exact impl_Line_argued.mono _ _ _ _ _ _)
   | (with_reducible exact impl_blockOk.mono _ _ _ _ _)
   | (with_reducible exact LeO.refl _)
   | (with_reducible exact LeO.none _)
   | (with_reducible refine LeO.ite ?_ ?_)
   | (with_reducible refine LeO.bind ?_ (fun _=>?_))
theorem impl_ValidProgram.mono : ∀ a0 a1 k,LeO (impl_ValidProgram.f k a0 a1) (impl_ValidProgram.f (k + 1) a0 a1):=by
 intro a0 a1 k
 obtain ⟨ih0,ih1⟩:=impl_ValidProgram.mono_l k
 unfold impl_ValidProgram.f
 repeat' first
   | (with_reducible exact ih0 _ _ _)
   | (with_reducible exact ih1 _ _ _ _ _ _ _ _ _)
   | (with_reducible exact impl_Line_argued.mono _ _ _ _ _ _)
   | (with_reducible exact impl_blockOk.mono _ _ _ _ _)
   | (with_reducible exact LeO.refl _)
   | (with_reducible exact LeO.none _)
   | (with_reducible refine LeO.ite ?_ ?_)
   | (with_reducible refine LeO.bind ?_ (fun _=>?_))
set_option maxHeartbeats 8000000 in
set_option maxRecDepth 100000 in
theorem impl_ValidProgram.calls (k : Nat) (A0_0 : Option Addr) (c0_0 : Nat) (l0_0 : List (S125)) (A1 : Option Addr) (c1 : Nat) (l1 : List (S75)) (r : Bool) (w : World) (hr0_0 : Kd.C k125 w A0_0 l0_0.length l0_0) (hc0_0 : l0_0.length ≤ c0_0) (hr1 : Kd.C k75 w A1 l1.length l1) (hc1 : l1.length ≤ c1) (h : impl_ValidProgram.f k l0_0 l1 = some r) :
  Calls Try.prog 45 #[.agg #[.slice A0_0 l0_0.length c0_0],.slice A1 l1.length c1] w fun e w'=>e = .returned (.bool r) ∧ Below w.heap.size w w':=by
 have hu25:=Try.underlying25;have hu75:=Try.underlying75;have HR0_0:=a0_ hr0_0;have HC0_0:=a0_ hc0_0;clear hr0_0 hc0_0;have HR1:=a0_ hr1;have HC1:=a0_ hc1;clear hr1 hc1;have HB:=a0_ (Below.refl w.heap.size w);have H : ((impl_ValidTree.f l0_0).bind fun t2=>(if t2 = true then (impl_ValidProgram.j0 k l1 (decide ((l1.length : Int) > 24)) l0_0) else (impl_ValidProgram.j0 k l1 true l0_0))) = some r:=h;clear h;have HC3:=a0_ H;clear H;go_enter Try.func45,Try.ntmps45;go_upto_region 1 with (first | ((with_reducible refine gate_dst (N:=2) rfl ?_);(try (refine gate_guard (by rfl) ?_;dsimp only));refine box_event ?hg (N:=2) ?hd (cs:=#[.slice A0_0 l0_0.length c0_0]) (t:=25) ?hr ?_;(case hd=>rfl);(case hg=>rfl);(case hr=>first | (go_simp;done) | (go_simp;rfl));intro gb1 hg w4 hbox hb;have BK1:=a0_ (hbox);have GW1:=a0_ ((by rw [hg];exact (below_size hbw_) : w.heap.size ≤ gb1));have GE1:=a0_ ((by rw [hg];exact (below_size hbw_) : w.heap.size ≤ gb1));replace HB:=a0_ (below_step hbw_ hb);clear hb hbox hg));(try simp only [Act.put,s1_,s2_,s3_]);go_cut [15] (fun v15 wc=>∃ (kq : Nat) (x15_2 : Bool),v15 = .bool x15_2 ∧ Aside0 (impl_ValidProgram.j0 kq l1 x15_2 l0_0 = some r) ∧ Aside0 (kq ≤ k) ∧ Aside0 (wc.heap[gb1]? = some (.cells #[(.slice A0_0 l0_0.length c0_0)] 25 (0,0))) ∧ Aside0 (Below w.heap.size w wc))
 case first =>
  have H:=HC3.out;clear HC3;replace H:=Option.bind_eq_some_iff.mp H;obtain ⟨t2,A50,H⟩:=H;(try dsimp only at H);have A5:=a0_ A50;clear A50;by_cases c6 : t2 = true
  ·subst c6
   have H1 : (impl_ValidProgram.j0 k l1 (decide ((l1.length : Int) > 24)) l0_0) = some r:=by rw [if_pos rfl] at H;exact H
   clear H;have H:=H1;clear H1;have H':=a0_ H;clear H;have hcz7_0 : w4.cell? ⟨gb1,0,none⟩ = some (.slice A0_0 l0_0.length c0_0):=(blk_cell BK1.out 0).trans rfl;have hfz7_0:=blk_frozen BK1.out 0;go_wp2_with (first | ((with_reducible refine gate_callee (f:=54) rfl ?_);refine goesL_ (some 9) rfl rfl Try.func54 (by kernel_rfl) rfl #[.agg #[.slice A0_0 l0_0.length c0_0]] rfl lm_ ?_;(with_reducible refine (impl_ValidTree.calls _ _ l0_0 true _ ?side1 ?side2 A5.out).mono ?_);(case side1=>exact cc_ (Kd.C_below HR0_0.out HB.out));(case side2=>exact HC0_0.out);rintro e w8 ⟨rfl,hb⟩;refine ⟨_,rfl,?_⟩;replace BK1:=kb_ BK1 hb;replace HB:=a0_ (below_step hbw_ hb);(try clear hb);(try clear hb2);(try clear hk);(try clear hi)));go_meet
   case rel=>exact ⟨_,(decide ((l1.length : Int) > 24)),(by first | rfl | (simp;done) | (simp [*];done)),H',⟨by first | omega | exact Nat.le_refl _⟩,⟨by (with_reducible repeat (first | refine blk_drewN ?_ _ | refine blk_drew ?_ | refine blk_alloc ?_ _));exact BK1.out⟩,⟨hbw_⟩⟩
  ·replace c6:=Bool.eq_false_iff.mpr c6
   subst c6
   have H1 : (impl_ValidProgram.j0 k l1 true l0_0) = some r:=by rw [if_neg (show ¬ (false = true) by decide)] at H;exact H
   clear H;have H:=H1;clear H1;have H':=a0_ H;clear H;have hcz9_0 : w4.cell? ⟨gb1,0,none⟩ = some (.slice A0_0 l0_0.length c0_0):=(blk_cell BK1.out 0).trans rfl;have hfz9_0:=blk_frozen BK1.out 0;go_wp2_with (first | ((with_reducible refine gate_callee (f:=54) rfl ?_);refine goesL_ (some 9) rfl rfl Try.func54 (by kernel_rfl) rfl #[.agg #[.slice A0_0 l0_0.length c0_0]] rfl lm_ ?_;(with_reducible refine (impl_ValidTree.calls _ _ l0_0 false _ ?side1 ?side2 A5.out).mono ?_);(case side1=>exact cc_ (Kd.C_below HR0_0.out HB.out));(case side2=>exact HC0_0.out);rintro e w10 ⟨rfl,hb⟩;refine ⟨_,rfl,?_⟩;replace BK1:=kb_ BK1 hb;replace HB:=a0_ (below_step hbw_ hb);(try clear hb);(try clear hb2);(try clear hk);(try clear hi)));go_meet
   case rel=>exact ⟨_,(true),(by first | rfl | (simp;done) | (simp [*];done)),H',⟨by first | omega | exact Nat.le_refl _⟩,⟨by (with_reducible repeat (first | refine blk_drewN ?_ _ | refine blk_drew ?_ | refine blk_alloc ?_ _));exact BK1.out⟩,⟨hbw_⟩⟩
 case rest =>
  clear HC3;(try clear c1);(try clear p2);(try clear c4);(try clear c5);(try clear c6);(try clear hcz7_0);(try clear hcz9_0);(try clear hfz7_0);(try clear hfz9_0);obtain ⟨kq,x15_2,rfl,HA,HJ2,BK1,HB⟩:=hcut
  cases kq with
  | zero=>exact absurd HA.out (by simp [impl_ValidProgram.j0])
  | succ kj2 =>
   have H:=HA.out;clear HA;simp only [impl_ValidProgram.j0] at H;by_cases c11 : x15_2 = true
   ·subst c11
    have H1 : (some false) = some r:=by rw [if_pos rfl] at H;exact H
    clear H;have H:=H1;clear H1;obtain rfl:=Option.some.inj H;go_wp2;go_ret;exact ⟨by first | rfl | (simp [errW_none,errW_some] <;> rfl) | (simp [*,errW_none,errW_some] <;> rfl),hbw_⟩
   ·replace c11:=Bool.eq_false_iff.mpr c11
    subst c11
    have H1 : (impl_ValidProgram.l0 kj2 l1 l1 (l1.length : Int) 0 l0_0 (-1) 7 0 0) = some r:=by rw [if_neg (show ¬ (false = true) by decide)] at H;exact H
    clear H;have H:=H1;clear H1;have H':=a0_ H;clear H;go_wp2_with (first | ((with_reducible refine gate_dst (N:=5) rfl ?_);(try (refine gate_guard (by rfl) ?_;dsimp only));refine box_event ?hg (N:=5) ?hd (cs:=#[.int .i64 0,.int .i64 0,.int .i64 0,.int .i64 0]) (t:=75) ?hr ?_;(case hd=>rfl);(case hg=>rfl);(case hr=>first | (go_simp;done) | (go_simp;rfl));intro gb3 hg w12 hbox hb;have n0_:=kb_ BK1 hb;have n1_:=a0_ (below_step hbw_ hb);have n2_:=a0_ (hbox);have n3_:=a0_ ((by rw [hg];exact (below_size hbw_) : w.heap.size ≤ gb3));have n4_:=a0_ ((by rw [hg];exact (below_size hbw_) : w.heap.size ≤ gb3));have n5_:=a0_ ((by rw [hg];exact Nat.ne_of_lt (blk_lt (bb_ BK1.out)) : gb1 ≠ gb3));have n6_:=a0_ ((by rw [hg];exact Nat.ne_of_gt (blk_lt (bb_ BK1.out)) : gb3 ≠ gb1));clear BK1 HB;have BK1:=n0_;have HB:=n1_;have BK3:=n2_;have GW3:=n3_;have GE3:=n4_;have NB1_3:=n5_;have NB3_1:=n6_;clear n0_ n1_ n2_ n3_ n4_ n5_ n6_;clear hb hbox hg;have hnb13:=NB3_1.out;have hnc13:=NB1_3.out;have hcz14_0 : w12.cell? ⟨gb3,0,none⟩ = some (.int .i64 0):=(blk_cell BK3.out 0).trans rfl;have hcz14_1 : w12.cell? ⟨gb3,1,none⟩ = some (.int .i64 0):=(blk_cell BK3.out 1).trans rfl;have hcz14_2 : w12.cell? ⟨gb3,2,none⟩ = some (.int .i64 0):=(blk_cell BK3.out 2).trans rfl;have hcz14_3 : w12.cell? ⟨gb3,3,none⟩ = some (.int .i64 0):=(blk_cell BK3.out 3).trans rfl;have hfz14_0:=blk_frozen BK3.out 0;have hfz14_1:=blk_frozen BK3.out 1;have hfz14_2:=blk_frozen BK3.out 2;have hfz14_3:=blk_frozen BK3.out 3));go_loopg [19] kj2 (fun kq v19 w'=>∃ (x19_2 : Int) (x4000_2 : Int) (x4001_2 : Int) (x4002_2 : Int) (x4003_2 : Int),v19 = .int .i64 x19_2 ∧ Aside0 (impl_ValidProgram.l0 kq l1 l1 (l1.length : Int) x19_2 l0_0 x4000_2 x4001_2 x4002_2 x4003_2 = some r) ∧ Aside0 (kq ≤ kj2) ∧ Aside0 (w'.heap[gb1]? = some (.cells #[(.slice A0_0 l0_0.length c0_0)] 25 (0,0))) ∧ Aside0 (w'.heap[gb3]? = some (.cells #[.int .i64 x4000_2,.int .i64 x4001_2,.int .i64 x4002_2,.int .i64 x4003_2] 75 (0,0))) ∧ Aside0 (Below w.heap.size w w'))
    case atStart=>exact ⟨(0),((-1)),(7),(0),(0),(by first | rfl | (simp;done) | (simp [*];done)),H',⟨Nat.le_refl _⟩,⟨by (with_reducible repeat (first | refine blk_drewN ?_ _ | refine blk_drew ?_ | refine blk_alloc ?_ _));refine blk_far ?_ NB1_3.out _;(with_reducible repeat (first | refine blk_drewN ?_ _ | refine blk_drew ?_ | refine blk_alloc ?_ _));refine blk_far ?_ NB1_3.out _;(with_reducible repeat (first | refine blk_drewN ?_ _ | refine blk_drew ?_ | refine blk_alloc ?_ _));refine blk_far ?_ NB1_3.out _;(with_reducible repeat (first | refine blk_drewN ?_ _ | refine blk_drew ?_ | refine blk_alloc ?_ _));refine blk_far ?_ NB1_3.out _;(with_reducible repeat (first | refine blk_drewN ?_ _ | refine blk_drew ?_ | refine blk_alloc ?_ _));exact BK1.out⟩,⟨by (with_reducible repeat (first | refine blk_drewN ?_ _ | refine blk_drew ?_ | refine blk_alloc ?_ _));refine blk_put (cs:=#[.int .i64 (-1),.int .i64 7,.int .i64 0,.int .i64 0]) ?_ 3 _ rfl;(with_reducible repeat (first | refine blk_drewN ?_ _ | refine blk_drew ?_ | refine blk_alloc ?_ _));refine blk_put (cs:=#[.int .i64 (-1),.int .i64 7,.int .i64 0,.int .i64 0]) ?_ 2 _ rfl;(with_reducible repeat (first | refine blk_drewN ?_ _ | refine blk_drew ?_ | refine blk_alloc ?_ _));refine blk_put (cs:=#[.int .i64 (-1),.int .i64 0,.int .i64 0,.int .i64 0]) ?_ 1 _ rfl;(with_reducible repeat (first | refine blk_drewN ?_ _ | refine blk_drew ?_ | refine blk_alloc ?_ _));refine blk_put (cs:=#[.int .i64 0,.int .i64 0,.int .i64 0,.int .i64 0]) ?_ 0 _ rfl;(with_reducible repeat (first | refine blk_drewN ?_ _ | refine blk_drew ?_ | refine blk_alloc ?_ _));exact BK3.out⟩,⟨hbw_⟩⟩
    case round =>
     clear H';(try clear c1);(try clear p2);(try clear c4);(try clear c5);(try clear c6);(try clear c11);(try clear c13);(try clear hcz14_0);(try clear hcz14_1);(try clear hcz14_2);(try clear hcz14_3);(try clear hcz7_0);(try clear hcz9_0);(try clear hfz14_0);(try clear hfz14_1);(try clear hfz14_2);(try clear hfz14_3);(try clear hfz7_0);(try clear hfz9_0);(try clear p2);obtain ⟨x19_2,x4000_2,x4001_2,x4002_2,x4003_2,rfl,HA,HK2,BK1,BK3,HB⟩:=hrel
     cases gk with
     | zero=>exact absurd HA.out (by simp [impl_ValidProgram.l0])
     | succ k2 =>
      have H:=HA.out;clear HA;simp only [impl_ValidProgram.l0] at H;by_cases c15 : x19_2 < (l1.length : Int)
      ·rw [if_pos c15] at H
       have c15b0 : decide (x19_2 < (l1.length : Int)) = true:=decide_eq_true c15;clear c15;by_cases c16 : 0 ≤ x19_2
       ·rw [if_pos c16] at H
        have c16b0 : decide (0 ≤ x19_2) = true:=decide_eq_true c16;clear c16;by_cases c17 : x19_2 < (l1.length : Int)
        ·rw [if_pos c17] at H
         have c17b0 : decide (x19_2 < (l1.length : Int)) = true:=decide_eq_true c17;clear c17;replace H:=Option.bind_eq_some_iff.mp H;obtain ⟨t9,A180,H⟩:=H;(try dsimp only at H);have A18:=a0_ A180;clear A180;by_cases c19 : t9 = true
         ·subst c19
          have H1 : ((impl_within.f ((rd_T75 l1 x19_2).f0) 0 5).bind fun t10=>(if t10 = true then ((impl_Line_opens.f x4000_2 x4001_2 x4002_2 x4003_2).bind fun t11=>(if t11 = true then (if ((rd_T75 l1 x19_2).f0) = (wrap64 (x4000_2 + 1)) then ((impl_Line_opens.f x4000_2 x4001_2 x4002_2 x4003_2).bind fun t12=>(if t12 = true then (impl_ValidProgram.l0 k2 l1 l1 (l1.length : Int) (wrap64 (x19_2 + 1)) l0_0 ((rd_T75 l1 x19_2).f0) ((rd_T75 l1 x19_2).f1) ((rd_T75 l1 x19_2).f2) ((rd_T75 l1 x19_2).f3)) else (if ((rd_T75 l1 x19_2).f0) > x4000_2 then (some false) else (impl_ValidProgram.l0 k2 l1 l1 (l1.length : Int) (wrap64 (x19_2 + 1)) l0_0 ((rd_T75 l1 x19_2).f0) ((rd_T75 l1 x19_2).f1) ((rd_T75 l1 x19_2).f2) ((rd_T75 l1 x19_2).f3))))) else (some false)) else ((impl_Line_opens.f x4000_2 x4001_2 x4002_2 x4003_2).bind fun t13=>(if t13 = true then (impl_ValidProgram.l0 k2 l1 l1 (l1.length : Int) (wrap64 (x19_2 + 1)) l0_0 ((rd_T75 l1 x19_2).f0) ((rd_T75 l1 x19_2).f1) ((rd_T75 l1 x19_2).f2) ((rd_T75 l1 x19_2).f3)) else (if ((rd_T75 l1 x19_2).f0) > x4000_2 then (some false) else (impl_ValidProgram.l0 k2 l1 l1 (l1.length : Int) (wrap64 (x19_2 + 1)) l0_0 ((rd_T75 l1 x19_2).f0) ((rd_T75 l1 x19_2).f1) ((rd_T75 l1 x19_2).f2) ((rd_T75 l1 x19_2).f3))))))) else (some false))) = some r:=by rw [if_pos rfl] at H;exact H
          clear H;have H:=H1;clear H1;replace H:=Option.bind_eq_some_iff.mp H;obtain ⟨t10,A200,H⟩:=H;(try dsimp only at H);have A20:=a0_ A200;clear A200;by_cases c21 : t10 = true
          ·subst c21
           have H1 : ((impl_Line_opens.f x4000_2 x4001_2 x4002_2 x4003_2).bind fun t11=>(if t11 = true then (if ((rd_T75 l1 x19_2).f0) = (wrap64 (x4000_2 + 1)) then ((impl_Line_opens.f x4000_2 x4001_2 x4002_2 x4003_2).bind fun t12=>(if t12 = true then (impl_ValidProgram.l0 k2 l1 l1 (l1.length : Int) (wrap64 (x19_2 + 1)) l0_0 ((rd_T75 l1 x19_2).f0) ((rd_T75 l1 x19_2).f1) ((rd_T75 l1 x19_2).f2) ((rd_T75 l1 x19_2).f3)) else (if ((rd_T75 l1 x19_2).f0) > x4000_2 then (some false) else (impl_ValidProgram.l0 k2 l1 l1 (l1.length : Int) (wrap64 (x19_2 + 1)) l0_0 ((rd_T75 l1 x19_2).f0) ((rd_T75 l1 x19_2).f1) ((rd_T75 l1 x19_2).f2) ((rd_T75 l1 x19_2).f3))))) else (some false)) else ((impl_Line_opens.f x4000_2 x4001_2 x4002_2 x4003_2).bind fun t13=>(if t13 = true then (impl_ValidProgram.l0 k2 l1 l1 (l1.length : Int) (wrap64 (x19_2 + 1)) l0_0 ((rd_T75 l1 x19_2).f0) ((rd_T75 l1 x19_2).f1) ((rd_T75 l1 x19_2).f2) ((rd_T75 l1 x19_2).f3)) else (if ((rd_T75 l1 x19_2).f0) > x4000_2 then (some false) else (impl_ValidProgram.l0 k2 l1 l1 (l1.length : Int) (wrap64 (x19_2 + 1)) l0_0 ((rd_T75 l1 x19_2).f0) ((rd_T75 l1 x19_2).f1) ((rd_T75 l1 x19_2).f2) ((rd_T75 l1 x19_2).f3))))))) = some r:=by rw [if_pos rfl] at H;exact H
           clear H;have H:=H1;clear H1;replace H:=Option.bind_eq_some_iff.mp H;obtain ⟨t11,A220,H⟩:=H;(try dsimp only at H);have A22:=a0_ A220;clear A220;by_cases c23 : t11 = true
           ·subst c23
            have H1 : (if ((rd_T75 l1 x19_2).f0) = (wrap64 (x4000_2 + 1)) then ((impl_Line_opens.f x4000_2 x4001_2 x4002_2 x4003_2).bind fun t12=>(if t12 = true then (impl_ValidProgram.l0 k2 l1 l1 (l1.length : Int) (wrap64 (x19_2 + 1)) l0_0 ((rd_T75 l1 x19_2).f0) ((rd_T75 l1 x19_2).f1) ((rd_T75 l1 x19_2).f2) ((rd_T75 l1 x19_2).f3)) else (if ((rd_T75 l1 x19_2).f0) > x4000_2 then (some false) else (impl_ValidProgram.l0 k2 l1 l1 (l1.length : Int) (wrap64 (x19_2 + 1)) l0_0 ((rd_T75 l1 x19_2).f0) ((rd_T75 l1 x19_2).f1) ((rd_T75 l1 x19_2).f2) ((rd_T75 l1 x19_2).f3))))) else (some false)) = some r:=by rw [if_pos rfl] at H;exact H
            clear H;have H:=H1;clear H1;by_cases c24 : ((rd_T75 l1 x19_2).f0) = (wrap64 (x4000_2 + 1))
            ·rw [if_pos c24] at H
             have c24b0 : (((rd_T75 l1 x19_2).f0) == (wrap64 (x4000_2 + 1))) = true:=beq_iff_eq.mpr c24;have c24b1 : (((rd_T75 l1 x19_2).f0) != (wrap64 (x4000_2 + 1))) = false:=bne_eq_false_iff_eq.mpr c24;clear c24;replace H:=Option.bind_eq_some_iff.mp H;obtain ⟨t12,A250,H⟩:=H;(try dsimp only at H);have A25:=a0_ A250;clear A250;by_cases c26 : t12 = true
             ·subst c26
              have H1 : (impl_ValidProgram.l0 k2 l1 l1 (l1.length : Int) (wrap64 (x19_2 + 1)) l0_0 ((rd_T75 l1 x19_2).f0) ((rd_T75 l1 x19_2).f1) ((rd_T75 l1 x19_2).f2) ((rd_T75 l1 x19_2).f3)) = some r:=by rw [if_pos rfl] at H;exact H
              clear H;have H:=H1;clear H1;have H':=a0_ H;clear H;have p7 : 0 ≤ (x19_2 : Int):=od_;have q7 : x19_2 < (l1.length : Int):=od_;obtain ⟨ad7,e7,hx7_0,hx7_1,hx7_2,hx7_3⟩:=at_T75 HR1.out x19_2 p7 q7;cases e7;replace hx7_0:=cl_ HB.out hx7_0;replace hx7_1:=cl_ HB.out hx7_1;replace hx7_2:=cl_ HB.out hx7_2;replace hx7_3:=cl_ HB.out hx7_3;replace p7:=eq_true p7;replace q7:=eq_true q7;go_wp2_with (first | ((with_reducible refine gate_dst (N:=7) rfl ?_);(try (refine gate_guard (by rfl) ?_;dsimp only));refine box_event ?hg (N:=7) ?hd (cs:=#[.int .i64 0,.int .i64 0,.int .i64 0,.int .i64 0]) (t:=75) ?hr ?_;(case hd=>rfl);(case hg=>rfl);(case hr=>first | (go_simp;done) | (go_simp;rfl));intro gb8 hg w27 hbox hb;have n0_:=kb_ BK1 hb;have n1_:=kb_ BK3 hb;have n2_:=a0_ (below_step hbw_ hb);have n3_:=a0_ (hbox);have n4_:=a0_ ((by rw [hg];exact (below_size hbw_) : w.heap.size ≤ gb8));have n5_:=a0_ ((by rw [hg];exact (below_size hbw_) : w.heap.size ≤ gb8));have n6_:=a0_ ((by rw [hg];exact Nat.ne_of_lt (blk_lt (bb_ BK1.out)) : gb1 ≠ gb8));have n7_:=a0_ ((by rw [hg];exact Nat.ne_of_gt (blk_lt (bb_ BK1.out)) : gb8 ≠ gb1));have n8_:=a0_ ((by rw [hg];exact Nat.ne_of_lt (blk_lt (bb_ BK3.out)) : gb3 ≠ gb8));have n9_:=a0_ ((by rw [hg];exact Nat.ne_of_gt (blk_lt (bb_ BK3.out)) : gb8 ≠ gb3));clear BK1 BK3 HB;have BK1:=n0_;have BK3:=n1_;have HB:=n2_;have BK8:=n3_;have GW8:=n4_;have GE8:=n5_;have NB1_8:=n6_;have NB8_1:=n7_;have NB3_8:=n8_;have NB8_3:=n9_;clear n0_ n1_ n2_ n3_ n4_ n5_ n6_ n7_ n8_ n9_;clear hb hbox hg;have hnb28:=NB8_1.out;have hnc28:=NB1_8.out;have hnb29:=NB8_3.out;have hnc29:=NB3_8.out;have hcz30_0 : w27.cell? ⟨gb8,0,none⟩ = some (.int .i64 0):=(blk_cell BK8.out 0).trans rfl;have hcz30_1 : w27.cell? ⟨gb8,1,none⟩ = some (.int .i64 0):=(blk_cell BK8.out 1).trans rfl;have hcz30_2 : w27.cell? ⟨gb8,2,none⟩ = some (.int .i64 0):=(blk_cell BK8.out 2).trans rfl;have hcz30_3 : w27.cell? ⟨gb8,3,none⟩ = some (.int .i64 0):=(blk_cell BK8.out 3).trans rfl;have hfz30_0:=blk_frozen BK8.out 0;have hfz30_1:=blk_frozen BK8.out 1;have hfz30_2:=blk_frozen BK8.out 2;have hfz30_3:=blk_frozen BK8.out 3;have hnb31:=NB1_3.out;have hnc31:=NB3_1.out;have hcz32_0 : w27.cell? ⟨gb1,0,none⟩ = some (.slice A0_0 l0_0.length c0_0):=(blk_cell BK1.out 0).trans rfl;have hfz32_0:=blk_frozen BK1.out 0) | ((with_reducible refine gate_callee (f:=98) rfl ?_);refine goesL_ (some 25) rfl rfl Try.func98 (by kernel_rfl) rfl #[.agg #[.int .i64 ((rd_T75 l1 x19_2).f0),.int .i64 ((rd_T75 l1 x19_2).f1),.int .i64 ((rd_T75 l1 x19_2).f2),.int .i64 ((rd_T75 l1 x19_2).f3)],.agg #[.slice A0_0 l0_0.length c0_0]] rfl lm_ ?_;(with_reducible refine (impl_Line_argued.calls k2 ((rd_T75 l1 x19_2).f0) ((rd_T75 l1 x19_2).f1) ((rd_T75 l1 x19_2).f2) ((rd_T75 l1 x19_2).f3) _ _ l0_0 true _ ?side1 ?side2 A18.out).mono ?_);(case side1=>exact Kd.C_below HR0_0.out hbw_);(case side2=>exact HC0_0.out);rintro e w33 ⟨rfl,hb⟩;refine ⟨_,rfl,?_⟩;replace BK1:=a0_ (blk_below (g:=gb1) (o:=.cells #[.slice A0_0 l0_0.length c0_0] 25 (0,0)) (bff_ BK1.out) hb);replace BK3:=a0_ (blk_below (g:=gb3) (o:=.cells #[.int .i64 x4000_2,.int .i64 x4001_2,.int .i64 x4002_2,.int .i64 x4003_2] 75 (0,0)) (bff_ BK3.out) hb);replace BK8:=a0_ (blk_below (g:=gb8) (o:=.cells #[.int .i64 ((rd_T75 l1 x19_2).f0),.int .i64 ((rd_T75 l1 x19_2).f1),.int .i64 ((rd_T75 l1 x19_2).f2),.int .i64 ((rd_T75 l1 x19_2).f3)] 75 (0,0)) (by (with_reducible repeat (first | refine blk_drewN ?_ _ | refine blk_drew ?_ | refine blk_alloc ?_ _));refine blk_put (cs:=#[.int .i64 ((rd_T75 l1 x19_2).f0),.int .i64 ((rd_T75 l1 x19_2).f1),.int .i64 ((rd_T75 l1 x19_2).f2),.int .i64 0]) ?_ 3 _ rfl;(with_reducible repeat (first | refine blk_drewN ?_ _ | refine blk_drew ?_ | refine blk_alloc ?_ _));refine blk_put (cs:=#[.int .i64 ((rd_T75 l1 x19_2).f0),.int .i64 ((rd_T75 l1 x19_2).f1),.int .i64 0,.int .i64 0]) ?_ 2 _ rfl;(with_reducible repeat (first | refine blk_drewN ?_ _ | refine blk_drew ?_ | refine blk_alloc ?_ _));refine blk_put (cs:=#[.int .i64 ((rd_T75 l1 x19_2).f0),.int .i64 0,.int .i64 0,.int .i64 0]) ?_ 1 _ rfl;(with_reducible repeat (first | refine blk_drewN ?_ _ | refine blk_drew ?_ | refine blk_alloc ?_ _));refine blk_put (cs:=#[.int .i64 0,.int .i64 0,.int .i64 0,.int .i64 0]) ?_ 0 _ rfl;(with_reducible repeat (first | refine blk_drewN ?_ _ | refine blk_drew ?_ | refine blk_alloc ?_ _));exact BK8.out) hb);replace HB:=a0_ (below_step hbw_ hb);(try clear hb);have hcz34_0 : w33.cell? ⟨gb8,0,none⟩ = some (.int .i64 ((rd_T75 l1 x19_2).f0)):=(blk_cell BK8.out 0).trans rfl;have hcz34_1 : w33.cell? ⟨gb8,1,none⟩ = some (.int .i64 ((rd_T75 l1 x19_2).f1)):=(blk_cell BK8.out 1).trans rfl;have hcz34_2 : w33.cell? ⟨gb8,2,none⟩ = some (.int .i64 ((rd_T75 l1 x19_2).f2)):=(blk_cell BK8.out 2).trans rfl;have hcz34_3 : w33.cell? ⟨gb8,3,none⟩ = some (.int .i64 ((rd_T75 l1 x19_2).f3)):=(blk_cell BK8.out 3).trans rfl;have hfz34_0:=blk_frozen BK8.out 0;have hfz34_1:=blk_frozen BK8.out 1;have hfz34_2:=blk_frozen BK8.out 2;have hfz34_3:=blk_frozen BK8.out 3) | (go_at_call 75;(with_reducible refine (impl_within.calls ((rd_T75 l1 x19_2).f0) 0 5 true _ A20.out).mono ?_);rintro e w' ⟨rfl,⟨nd,rfl⟩⟩;(try (rw [drewN_self w33];generalize hq_ : World.drewN w33 _ = w33;have n0_ : Aside0 (w33.heap[gb1]? = some (.cells #[.slice A0_0 l0_0.length c0_0] 25 (0,0))):=⟨by rw [← hq_];exact (bb_ BK1.out)⟩;have n1_ : Aside0 (w33.heap[gb3]? = some (.cells #[.int .i64 x4000_2,.int .i64 x4001_2,.int .i64 x4002_2,.int .i64 x4003_2] 75 (0,0))):=⟨by rw [← hq_];exact (bb_ BK3.out)⟩;have n2_ : Aside0 (w33.heap[gb8]? = some (.cells #[.int .i64 ((rd_T75 l1 x19_2).f0),.int .i64 ((rd_T75 l1 x19_2).f1),.int .i64 ((rd_T75 l1 x19_2).f2),.int .i64 ((rd_T75 l1 x19_2).f3)] 75 (0,0))):=⟨by rw [← hq_];exact (bb_ BK8.out)⟩;have n3_ : Aside0 (Below w.heap.size w w33):=⟨by rw [← hq_];exact hbw_⟩;clear BK1 BK3 BK8 HB hq_;have BK1:=n0_;have BK3:=n1_;have BK8:=n2_;have HB:=n3_;clear n0_ n1_ n2_ n3_));have hcz35_0 : w33.cell? ⟨gb3,0,none⟩ = some (.int .i64 x4000_2):=(blk_cell BK3.out 0).trans rfl;have hcz35_1 : w33.cell? ⟨gb3,1,none⟩ = some (.int .i64 x4001_2):=(blk_cell BK3.out 1).trans rfl;have hcz35_2 : w33.cell? ⟨gb3,2,none⟩ = some (.int .i64 x4002_2):=(blk_cell BK3.out 2).trans rfl;have hcz35_3 : w33.cell? ⟨gb3,3,none⟩ = some (.int .i64 x4003_2):=(blk_cell BK3.out 3).trans rfl;have hfz35_0:=blk_frozen BK3.out 0;have hfz35_1:=blk_frozen BK3.out 1;have hfz35_2:=blk_frozen BK3.out 2;have hfz35_3:=blk_frozen BK3.out 3) | (go_at_call 99;(with_reducible refine (impl_Line_opens.calls x4000_2 x4001_2 x4002_2 x4003_2 true _ A22.out).mono ?_);rintro e w36 ⟨rfl,hb⟩;replace BK1:=kb_ BK1 hb;replace BK3:=kb_ BK3 hb;replace BK8:=kb_ BK8 hb;replace HB:=a0_ (below_step hbw_ hb);(try clear hb);have hcz37_0 : w36.cell? ⟨gb8,0,none⟩ = some (.int .i64 ((rd_T75 l1 x19_2).f0)):=(blk_cell BK8.out 0).trans rfl;have hcz37_1 : w36.cell? ⟨gb8,1,none⟩ = some (.int .i64 ((rd_T75 l1 x19_2).f1)):=(blk_cell BK8.out 1).trans rfl;have hcz37_2 : w36.cell? ⟨gb8,2,none⟩ = some (.int .i64 ((rd_T75 l1 x19_2).f2)):=(blk_cell BK8.out 2).trans rfl;have hcz37_3 : w36.cell? ⟨gb8,3,none⟩ = some (.int .i64 ((rd_T75 l1 x19_2).f3)):=(blk_cell BK8.out 3).trans rfl;have hfz37_0:=blk_frozen BK8.out 0;have hfz37_1:=blk_frozen BK8.out 1;have hfz37_2:=blk_frozen BK8.out 2;have hfz37_3:=blk_frozen BK8.out 3;have hcz38_0 : w36.cell? ⟨gb3,0,none⟩ = some (.int .i64 x4000_2):=(blk_cell BK3.out 0).trans rfl;have hcz38_1 : w36.cell? ⟨gb3,1,none⟩ = some (.int .i64 x4001_2):=(blk_cell BK3.out 1).trans rfl;have hcz38_2 : w36.cell? ⟨gb3,2,none⟩ = some (.int .i64 x4002_2):=(blk_cell BK3.out 2).trans rfl;have hcz38_3 : w36.cell? ⟨gb3,3,none⟩ = some (.int .i64 x4003_2):=(blk_cell BK3.out 3).trans rfl;have hfz38_0:=blk_frozen BK3.out 0;have hfz38_1:=blk_frozen BK3.out 1;have hfz38_2:=blk_frozen BK3.out 2;have hfz38_3:=blk_frozen BK3.out 3) | (go_at_call 99;(with_reducible refine (impl_Line_opens.calls x4000_2 x4001_2 x4002_2 x4003_2 true _ A25.out).mono ?_);rintro e w39 ⟨rfl,hb⟩;replace BK1:=kb_ BK1 hb;replace BK3:=kb_ BK3 hb;replace BK8:=kb_ BK8 hb;replace HB:=a0_ (below_step hbw_ hb);(try clear hb);have hcz40_0 : w39.cell? ⟨gb8,0,none⟩ = some (.int .i64 ((rd_T75 l1 x19_2).f0)):=(blk_cell BK8.out 0).trans rfl;have hcz40_1 : w39.cell? ⟨gb8,1,none⟩ = some (.int .i64 ((rd_T75 l1 x19_2).f1)):=(blk_cell BK8.out 1).trans rfl;have hcz40_2 : w39.cell? ⟨gb8,2,none⟩ = some (.int .i64 ((rd_T75 l1 x19_2).f2)):=(blk_cell BK8.out 2).trans rfl;have hcz40_3 : w39.cell? ⟨gb8,3,none⟩ = some (.int .i64 ((rd_T75 l1 x19_2).f3)):=(blk_cell BK8.out 3).trans rfl;have hfz40_0:=blk_frozen BK8.out 0;have hfz40_1:=blk_frozen BK8.out 1;have hfz40_2:=blk_frozen BK8.out 2;have hfz40_3:=blk_frozen BK8.out 3;have hcz41_0 : w39.cell? ⟨gb3,0,none⟩ = some (.int .i64 x4000_2):=(blk_cell BK3.out 0).trans rfl;have hcz41_1 : w39.cell? ⟨gb3,1,none⟩ = some (.int .i64 x4001_2):=(blk_cell BK3.out 1).trans rfl;have hcz41_2 : w39.cell? ⟨gb3,2,none⟩ = some (.int .i64 x4002_2):=(blk_cell BK3.out 2).trans rfl;have hcz41_3 : w39.cell? ⟨gb3,3,none⟩ = some (.int .i64 x4003_2):=(blk_cell BK3.out 3).trans rfl;have hfz41_0:=blk_frozen BK3.out 0;have hfz41_1:=blk_frozen BK3.out 1;have hfz41_2:=blk_frozen BK3.out 2;have hfz41_3:=blk_frozen BK3.out 3));go_roundg k2
              case measure=>have:=HJ2.out;have:=HK2.out;omega
              case rel=>exact ⟨(wrap64 (x19_2 + 1)),((rd_T75 l1 x19_2).f0),((rd_T75 l1 x19_2).f1),((rd_T75 l1 x19_2).f2),((rd_T75 l1 x19_2).f3),(by first | rfl | (simp;done) | (simp [*];done)),H',⟨by have:=HJ2.out;have:=HK2.out;omega⟩,⟨by (with_reducible repeat (first | refine blk_drewN ?_ _ | refine blk_drew ?_ | refine blk_alloc ?_ _));refine blk_far ?_ NB1_3.out _;(with_reducible repeat (first | refine blk_drewN ?_ _ | refine blk_drew ?_ | refine blk_alloc ?_ _));refine blk_far ?_ NB1_3.out _;(with_reducible repeat (first | refine blk_drewN ?_ _ | refine blk_drew ?_ | refine blk_alloc ?_ _));refine blk_far ?_ NB1_3.out _;(with_reducible repeat (first | refine blk_drewN ?_ _ | refine blk_drew ?_ | refine blk_alloc ?_ _));refine blk_far ?_ NB1_3.out _;(with_reducible repeat (first | refine blk_drewN ?_ _ | refine blk_drew ?_ | refine blk_alloc ?_ _));exact BK1.out⟩,⟨by (with_reducible repeat (first | refine blk_drewN ?_ _ | refine blk_drew ?_ | refine blk_alloc ?_ _));refine blk_put (cs:=#[.int .i64 ((rd_T75 l1 x19_2).f0),.int .i64 ((rd_T75 l1 x19_2).f1),.int .i64 ((rd_T75 l1 x19_2).f2),.int .i64 x4003_2]) ?_ 3 _ rfl;(with_reducible repeat (first | refine blk_drewN ?_ _ | refine blk_drew ?_ | refine blk_alloc ?_ _));refine blk_put (cs:=#[.int .i64 ((rd_T75 l1 x19_2).f0),.int .i64 ((rd_T75 l1 x19_2).f1),.int .i64 x4002_2,.int .i64 x4003_2]) ?_ 2 _ rfl;(with_reducible repeat (first | refine blk_drewN ?_ _ | refine blk_drew ?_ | refine blk_alloc ?_ _));refine blk_put (cs:=#[.int .i64 ((rd_T75 l1 x19_2).f0),.int .i64 x4001_2,.int .i64 x4002_2,.int .i64 x4003_2]) ?_ 1 _ rfl;(with_reducible repeat (first | refine blk_drewN ?_ _ | refine blk_drew ?_ | refine blk_alloc ?_ _));refine blk_put (cs:=#[.int .i64 x4000_2,.int .i64 x4001_2,.int .i64 x4002_2,.int .i64 x4003_2]) ?_ 0 _ rfl;(with_reducible repeat (first | refine blk_drewN ?_ _ | refine blk_drew ?_ | refine blk_alloc ?_ _));exact BK3.out⟩,⟨hbw_⟩⟩
             ·replace c26:=Bool.eq_false_iff.mpr c26
              subst c26;exact absurd (A22.out.symm.trans A25.out) (by simp)
            ·rw [if_neg c24] at H
             have c24b0 : (((rd_T75 l1 x19_2).f0) == (wrap64 (x4000_2 + 1))) = false:=beq_eq_false_iff_ne.mpr c24;have c24b1 : (((rd_T75 l1 x19_2).f0) != (wrap64 (x4000_2 + 1))) = true:=bne_iff_ne.mpr c24;obtain rfl:=Option.some.inj H;have p7 : 0 ≤ (x19_2 : Int):=od_;have q7 : x19_2 < (l1.length : Int):=od_;obtain ⟨ad7,e7,hx7_0,hx7_1,hx7_2,hx7_3⟩:=at_T75 HR1.out x19_2 p7 q7;cases e7;replace hx7_0:=cl_ HB.out hx7_0;replace hx7_1:=cl_ HB.out hx7_1;replace hx7_2:=cl_ HB.out hx7_2;replace hx7_3:=cl_ HB.out hx7_3;replace p7:=eq_true p7;replace q7:=eq_true q7;go_wp2_with (first | ((with_reducible refine gate_dst (N:=7) rfl ?_);(try (refine gate_guard (by rfl) ?_;dsimp only));refine box_event ?hg (N:=7) ?hd (cs:=#[.int .i64 0,.int .i64 0,.int .i64 0,.int .i64 0]) (t:=75) ?hr ?_;(case hd=>rfl);(case hg=>rfl);(case hr=>first | (go_simp;done) | (go_simp;rfl));intro gb8 hg w73 hbox hb;have n0_:=kb_ BK1 hb;have n1_:=kb_ BK3 hb;have n2_:=a0_ (below_step hbw_ hb);have n3_:=a0_ (hbox);have n4_:=a0_ ((by rw [hg];exact (below_size hbw_) : w.heap.size ≤ gb8));have n5_:=a0_ ((by rw [hg];exact (below_size hbw_) : w.heap.size ≤ gb8));have n6_:=a0_ ((by rw [hg];exact Nat.ne_of_lt (blk_lt (bb_ BK1.out)) : gb1 ≠ gb8));have n7_:=a0_ ((by rw [hg];exact Nat.ne_of_gt (blk_lt (bb_ BK1.out)) : gb8 ≠ gb1));have n8_:=a0_ ((by rw [hg];exact Nat.ne_of_lt (blk_lt (bb_ BK3.out)) : gb3 ≠ gb8));have n9_:=a0_ ((by rw [hg];exact Nat.ne_of_gt (blk_lt (bb_ BK3.out)) : gb8 ≠ gb3));clear BK1 BK3 HB;have BK1:=n0_;have BK3:=n1_;have HB:=n2_;have BK8:=n3_;have GW8:=n4_;have GE8:=n5_;have NB1_8:=n6_;have NB8_1:=n7_;have NB3_8:=n8_;have NB8_3:=n9_;clear n0_ n1_ n2_ n3_ n4_ n5_ n6_ n7_ n8_ n9_;clear hb hbox hg;have hnb74:=NB8_1.out;have hnc74:=NB1_8.out;have hnb75:=NB8_3.out;have hnc75:=NB3_8.out;have hcz76_0 : w73.cell? ⟨gb8,0,none⟩ = some (.int .i64 0):=(blk_cell BK8.out 0).trans rfl;have hcz76_1 : w73.cell? ⟨gb8,1,none⟩ = some (.int .i64 0):=(blk_cell BK8.out 1).trans rfl;have hcz76_2 : w73.cell? ⟨gb8,2,none⟩ = some (.int .i64 0):=(blk_cell BK8.out 2).trans rfl;have hcz76_3 : w73.cell? ⟨gb8,3,none⟩ = some (.int .i64 0):=(blk_cell BK8.out 3).trans rfl;have hfz76_0:=blk_frozen BK8.out 0;have hfz76_1:=blk_frozen BK8.out 1;have hfz76_2:=blk_frozen BK8.out 2;have hfz76_3:=blk_frozen BK8.out 3;have hnb77:=NB1_3.out;have hnc77:=NB3_1.out;have hcz78_0 : w73.cell? ⟨gb1,0,none⟩ = some (.slice A0_0 l0_0.length c0_0):=(blk_cell BK1.out 0).trans rfl;have hfz78_0:=blk_frozen BK1.out 0) | ((with_reducible refine gate_callee (f:=98) rfl ?_);refine goesL_ (some 25) rfl rfl Try.func98 (by kernel_rfl) rfl #[.agg #[.int .i64 ((rd_T75 l1 x19_2).f0),.int .i64 ((rd_T75 l1 x19_2).f1),.int .i64 ((rd_T75 l1 x19_2).f2),.int .i64 ((rd_T75 l1 x19_2).f3)],.agg #[.slice A0_0 l0_0.length c0_0]] rfl lm_ ?_;(with_reducible refine (impl_Line_argued.calls k2 ((rd_T75 l1 x19_2).f0) ((rd_T75 l1 x19_2).f1) ((rd_T75 l1 x19_2).f2) ((rd_T75 l1 x19_2).f3) _ _ l0_0 true _ ?side1 ?side2 A18.out).mono ?_);(case side1=>exact Kd.C_below HR0_0.out hbw_);(case side2=>exact HC0_0.out);rintro e w79 ⟨rfl,hb⟩;refine ⟨_,rfl,?_⟩;replace BK1:=a0_ (blk_below (g:=gb1) (o:=.cells #[.slice A0_0 l0_0.length c0_0] 25 (0,0)) (bff_ BK1.out) hb);replace BK3:=a0_ (blk_below (g:=gb3) (o:=.cells #[.int .i64 x4000_2,.int .i64 x4001_2,.int .i64 x4002_2,.int .i64 x4003_2] 75 (0,0)) (bff_ BK3.out) hb);replace BK8:=a0_ (blk_below (g:=gb8) (o:=.cells #[.int .i64 ((rd_T75 l1 x19_2).f0),.int .i64 ((rd_T75 l1 x19_2).f1),.int .i64 ((rd_T75 l1 x19_2).f2),.int .i64 ((rd_T75 l1 x19_2).f3)] 75 (0,0)) (by (with_reducible repeat (first | refine blk_drewN ?_ _ | refine blk_drew ?_ | refine blk_alloc ?_ _));refine blk_put (cs:=#[.int .i64 ((rd_T75 l1 x19_2).f0),.int .i64 ((rd_T75 l1 x19_2).f1),.int .i64 ((rd_T75 l1 x19_2).f2),.int .i64 0]) ?_ 3 _ rfl;(with_reducible repeat (first | refine blk_drewN ?_ _ | refine blk_drew ?_ | refine blk_alloc ?_ _));refine blk_put (cs:=#[.int .i64 ((rd_T75 l1 x19_2).f0),.int .i64 ((rd_T75 l1 x19_2).f1),.int .i64 0,.int .i64 0]) ?_ 2 _ rfl;(with_reducible repeat (first | refine blk_drewN ?_ _ | refine blk_drew ?_ | refine blk_alloc ?_ _));refine blk_put (cs:=#[.int .i64 ((rd_T75 l1 x19_2).f0),.int .i64 0,.int .i64 0,.int .i64 0]) ?_ 1 _ rfl;(with_reducible repeat (first | refine blk_drewN ?_ _ | refine blk_drew ?_ | refine blk_alloc ?_ _));refine blk_put (cs:=#[.int .i64 0,.int .i64 0,.int .i64 0,.int .i64 0]) ?_ 0 _ rfl;(with_reducible repeat (first | refine blk_drewN ?_ _ | refine blk_drew ?_ | refine blk_alloc ?_ _));exact BK8.out) hb);replace HB:=a0_ (below_step hbw_ hb);(try clear hb);have hcz80_0 : w79.cell? ⟨gb8,0,none⟩ = some (.int .i64 ((rd_T75 l1 x19_2).f0)):=(blk_cell BK8.out 0).trans rfl;have hcz80_1 : w79.cell? ⟨gb8,1,none⟩ = some (.int .i64 ((rd_T75 l1 x19_2).f1)):=(blk_cell BK8.out 1).trans rfl;have hcz80_2 : w79.cell? ⟨gb8,2,none⟩ = some (.int .i64 ((rd_T75 l1 x19_2).f2)):=(blk_cell BK8.out 2).trans rfl;have hcz80_3 : w79.cell? ⟨gb8,3,none⟩ = some (.int .i64 ((rd_T75 l1 x19_2).f3)):=(blk_cell BK8.out 3).trans rfl;have hfz80_0:=blk_frozen BK8.out 0;have hfz80_1:=blk_frozen BK8.out 1;have hfz80_2:=blk_frozen BK8.out 2;have hfz80_3:=blk_frozen BK8.out 3) | (go_at_call 75;(with_reducible refine (impl_within.calls ((rd_T75 l1 x19_2).f0) 0 5 true _ A20.out).mono ?_);rintro e w' ⟨rfl,⟨nd,rfl⟩⟩;have hcz81_0 : w79.cell? ⟨gb3,0,none⟩ = some (.int .i64 x4000_2):=(blk_cell BK3.out 0).trans rfl;have hcz81_1 : w79.cell? ⟨gb3,1,none⟩ = some (.int .i64 x4001_2):=(blk_cell BK3.out 1).trans rfl;have hcz81_2 : w79.cell? ⟨gb3,2,none⟩ = some (.int .i64 x4002_2):=(blk_cell BK3.out 2).trans rfl;have hcz81_3 : w79.cell? ⟨gb3,3,none⟩ = some (.int .i64 x4003_2):=(blk_cell BK3.out 3).trans rfl;have hfz81_0:=blk_frozen BK3.out 0;have hfz81_1:=blk_frozen BK3.out 1;have hfz81_2:=blk_frozen BK3.out 2;have hfz81_3:=blk_frozen BK3.out 3) | (go_at_call 99;(with_reducible refine (impl_Line_opens.calls x4000_2 x4001_2 x4002_2 x4003_2 true _ A22.out).mono ?_);rintro e w82 ⟨rfl,hb⟩;replace BK1:=kb_ BK1 hb;replace BK3:=kb_ BK3 hb;replace BK8:=kb_ BK8 hb;replace HB:=a0_ (below_step hbw_ hb);(try clear hb);have hcz83_0 : w82.cell? ⟨gb8,0,none⟩ = some (.int .i64 ((rd_T75 l1 x19_2).f0)):=(blk_cell BK8.out 0).trans rfl;have hcz83_1 : w82.cell? ⟨gb8,1,none⟩ = some (.int .i64 ((rd_T75 l1 x19_2).f1)):=(blk_cell BK8.out 1).trans rfl;have hcz83_2 : w82.cell? ⟨gb8,2,none⟩ = some (.int .i64 ((rd_T75 l1 x19_2).f2)):=(blk_cell BK8.out 2).trans rfl;have hcz83_3 : w82.cell? ⟨gb8,3,none⟩ = some (.int .i64 ((rd_T75 l1 x19_2).f3)):=(blk_cell BK8.out 3).trans rfl;have hfz83_0:=blk_frozen BK8.out 0;have hfz83_1:=blk_frozen BK8.out 1;have hfz83_2:=blk_frozen BK8.out 2;have hfz83_3:=blk_frozen BK8.out 3;have hcz84_0 : w82.cell? ⟨gb3,0,none⟩ = some (.int .i64 x4000_2):=(blk_cell BK3.out 0).trans rfl;have hcz84_1 : w82.cell? ⟨gb3,1,none⟩ = some (.int .i64 x4001_2):=(blk_cell BK3.out 1).trans rfl;have hcz84_2 : w82.cell? ⟨gb3,2,none⟩ = some (.int .i64 x4002_2):=(blk_cell BK3.out 2).trans rfl;have hcz84_3 : w82.cell? ⟨gb3,3,none⟩ = some (.int .i64 x4003_2):=(blk_cell BK3.out 3).trans rfl;have hfz84_0:=blk_frozen BK3.out 0;have hfz84_1:=blk_frozen BK3.out 1;have hfz84_2:=blk_frozen BK3.out 2;have hfz84_3:=blk_frozen BK3.out 3));go_ret;exact ⟨by first | rfl | (simp [errW_none,errW_some] <;> rfl) | (simp [*,errW_none,errW_some] <;> rfl),hbw_⟩
           ·replace c23:=Bool.eq_false_iff.mpr c23
            subst c23
            have H1 : ((impl_Line_opens.f x4000_2 x4001_2 x4002_2 x4003_2).bind fun t13=>(if t13 = true then (impl_ValidProgram.l0 k2 l1 l1 (l1.length : Int) (wrap64 (x19_2 + 1)) l0_0 ((rd_T75 l1 x19_2).f0) ((rd_T75 l1 x19_2).f1) ((rd_T75 l1 x19_2).f2) ((rd_T75 l1 x19_2).f3)) else (if ((rd_T75 l1 x19_2).f0) > x4000_2 then (some false) else (impl_ValidProgram.l0 k2 l1 l1 (l1.length : Int) (wrap64 (x19_2 + 1)) l0_0 ((rd_T75 l1 x19_2).f0) ((rd_T75 l1 x19_2).f1) ((rd_T75 l1 x19_2).f2) ((rd_T75 l1 x19_2).f3))))) = some r:=by rw [if_neg (show ¬ (false = true) by decide)] at H;exact H
            clear H;have H:=H1;clear H1;replace H:=Option.bind_eq_some_iff.mp H;obtain ⟨t13,A850,H⟩:=H;(try dsimp only at H);have A85:=a0_ A850;clear A850;by_cases c86 : t13 = true
            ·subst c86
             exact absurd (A22.out.symm.trans A85.out) (by simp)
            ·replace c86:=Bool.eq_false_iff.mpr c86
             subst c86
             have H1 : (if ((rd_T75 l1 x19_2).f0) > x4000_2 then (some false) else (impl_ValidProgram.l0 k2 l1 l1 (l1.length : Int) (wrap64 (x19_2 + 1)) l0_0 ((rd_T75 l1 x19_2).f0) ((rd_T75 l1 x19_2).f1) ((rd_T75 l1 x19_2).f2) ((rd_T75 l1 x19_2).f3))) = some r:=by rw [if_neg (show ¬ (false = true) by decide)] at H;exact H
             clear H;have H:=H1;clear H1;by_cases c101 : ((rd_T75 l1 x19_2).f0) > x4000_2
             ·rw [if_pos c101] at H
              have c101b0 : decide (x4000_2 < ((rd_T75 l1 x19_2).f0)) = true:=decide_eq_true c101;clear c101;obtain rfl:=Option.some.inj H;have p7 : 0 ≤ (x19_2 : Int):=od_;have q7 : x19_2 < (l1.length : Int):=od_;obtain ⟨ad7,e7,hx7_0,hx7_1,hx7_2,hx7_3⟩:=at_T75 HR1.out x19_2 p7 q7;cases e7;replace hx7_0:=cl_ HB.out hx7_0;replace hx7_1:=cl_ HB.out hx7_1;replace hx7_2:=cl_ HB.out hx7_2;replace hx7_3:=cl_ HB.out hx7_3;replace p7:=eq_true p7;replace q7:=eq_true q7;go_wp2_with (first | ((with_reducible refine gate_dst (N:=7) rfl ?_);(try (refine gate_guard (by rfl) ?_;dsimp only));refine box_event ?hg (N:=7) ?hd (cs:=#[.int .i64 0,.int .i64 0,.int .i64 0,.int .i64 0]) (t:=75) ?hr ?_;(case hd=>rfl);(case hg=>rfl);(case hr=>first | (go_simp;done) | (go_simp;rfl));intro gb8 hg w102 hbox hb;have n0_:=kb_ BK1 hb;have n1_:=kb_ BK3 hb;have n2_:=a0_ (below_step hbw_ hb);have n3_:=a0_ (hbox);have n4_:=a0_ ((by rw [hg];exact (below_size hbw_) : w.heap.size ≤ gb8));have n5_:=a0_ ((by rw [hg];exact (below_size hbw_) : w.heap.size ≤ gb8));have n6_:=a0_ ((by rw [hg];exact Nat.ne_of_lt (blk_lt (bb_ BK1.out)) : gb1 ≠ gb8));have n7_:=a0_ ((by rw [hg];exact Nat.ne_of_gt (blk_lt (bb_ BK1.out)) : gb8 ≠ gb1));have n8_:=a0_ ((by rw [hg];exact Nat.ne_of_lt (blk_lt (bb_ BK3.out)) : gb3 ≠ gb8));have n9_:=a0_ ((by rw [hg];exact Nat.ne_of_gt (blk_lt (bb_ BK3.out)) : gb8 ≠ gb3));clear BK1 BK3 HB;have BK1:=n0_;have BK3:=n1_;have HB:=n2_;have BK8:=n3_;have GW8:=n4_;have GE8:=n5_;have NB1_8:=n6_;have NB8_1:=n7_;have NB3_8:=n8_;have NB8_3:=n9_;clear n0_ n1_ n2_ n3_ n4_ n5_ n6_ n7_ n8_ n9_;clear hb hbox hg;have hnb103:=NB8_1.out;have hnc103:=NB1_8.out;have hnb104:=NB8_3.out;have hnc104:=NB3_8.out;have hcz105_0 : w102.cell? ⟨gb8,0,none⟩ = some (.int .i64 0):=(blk_cell BK8.out 0).trans rfl;have hcz105_1 : w102.cell? ⟨gb8,1,none⟩ = some (.int .i64 0):=(blk_cell BK8.out 1).trans rfl;have hcz105_2 : w102.cell? ⟨gb8,2,none⟩ = some (.int .i64 0):=(blk_cell BK8.out 2).trans rfl;have hcz105_3 : w102.cell? ⟨gb8,3,none⟩ = some (.int .i64 0):=(blk_cell BK8.out 3).trans rfl;have hfz105_0:=blk_frozen BK8.out 0;have hfz105_1:=blk_frozen BK8.out 1;have hfz105_2:=blk_frozen BK8.out 2;have hfz105_3:=blk_frozen BK8.out 3;have hnb106:=NB1_3.out;have hnc106:=NB3_1.out;have hcz107_0 : w102.cell? ⟨gb1,0,none⟩ = some (.slice A0_0 l0_0.length c0_0):=(blk_cell BK1.out 0).trans rfl;have hfz107_0:=blk_frozen BK1.out 0) | ((with_reducible refine gate_callee (f:=98) rfl ?_);refine goesL_ (some 25) rfl rfl Try.func98 (by kernel_rfl) rfl #[.agg #[.int .i64 ((rd_T75 l1 x19_2).f0),.int .i64 ((rd_T75 l1 x19_2).f1),.int .i64 ((rd_T75 l1 x19_2).f2),.int .i64 ((rd_T75 l1 x19_2).f3)],.agg #[.slice A0_0 l0_0.length c0_0]] rfl lm_ ?_;(with_reducible refine (impl_Line_argued.calls k2 ((rd_T75 l1 x19_2).f0) ((rd_T75 l1 x19_2).f1) ((rd_T75 l1 x19_2).f2) ((rd_T75 l1 x19_2).f3) _ _ l0_0 true _ ?side1 ?side2 A18.out).mono ?_);(case side1=>exact Kd.C_below HR0_0.out hbw_);(case side2=>exact HC0_0.out);rintro e w108 ⟨rfl,hb⟩;refine ⟨_,rfl,?_⟩;replace BK1:=a0_ (blk_below (g:=gb1) (o:=.cells #[.slice A0_0 l0_0.length c0_0] 25 (0,0)) (bff_ BK1.out) hb);replace BK3:=a0_ (blk_below (g:=gb3) (o:=.cells #[.int .i64 x4000_2,.int .i64 x4001_2,.int .i64 x4002_2,.int .i64 x4003_2] 75 (0,0)) (bff_ BK3.out) hb);replace BK8:=a0_ (blk_below (g:=gb8) (o:=.cells #[.int .i64 ((rd_T75 l1 x19_2).f0),.int .i64 ((rd_T75 l1 x19_2).f1),.int .i64 ((rd_T75 l1 x19_2).f2),.int .i64 ((rd_T75 l1 x19_2).f3)] 75 (0,0)) (by (with_reducible repeat (first | refine blk_drewN ?_ _ | refine blk_drew ?_ | refine blk_alloc ?_ _));refine blk_put (cs:=#[.int .i64 ((rd_T75 l1 x19_2).f0),.int .i64 ((rd_T75 l1 x19_2).f1),.int .i64 ((rd_T75 l1 x19_2).f2),.int .i64 0]) ?_ 3 _ rfl;(with_reducible repeat (first | refine blk_drewN ?_ _ | refine blk_drew ?_ | refine blk_alloc ?_ _));refine blk_put (cs:=#[.int .i64 ((rd_T75 l1 x19_2).f0),.int .i64 ((rd_T75 l1 x19_2).f1),.int .i64 0,.int .i64 0]) ?_ 2 _ rfl;(with_reducible repeat (first | refine blk_drewN ?_ _ | refine blk_drew ?_ | refine blk_alloc ?_ _));refine blk_put (cs:=#[.int .i64 ((rd_T75 l1 x19_2).f0),.int .i64 0,.int .i64 0,.int .i64 0]) ?_ 1 _ rfl;(with_reducible repeat (first | refine blk_drewN ?_ _ | refine blk_drew ?_ | refine blk_alloc ?_ _));refine blk_put (cs:=#[.int .i64 0,.int .i64 0,.int .i64 0,.int .i64 0]) ?_ 0 _ rfl;(with_reducible repeat (first | refine blk_drewN ?_ _ | refine blk_drew ?_ | refine blk_alloc ?_ _));exact BK8.out) hb);replace HB:=a0_ (below_step hbw_ hb);(try clear hb);have hcz109_0 : w108.cell? ⟨gb8,0,none⟩ = some (.int .i64 ((rd_T75 l1 x19_2).f0)):=(blk_cell BK8.out 0).trans rfl;have hcz109_1 : w108.cell? ⟨gb8,1,none⟩ = some (.int .i64 ((rd_T75 l1 x19_2).f1)):=(blk_cell BK8.out 1).trans rfl;have hcz109_2 : w108.cell? ⟨gb8,2,none⟩ = some (.int .i64 ((rd_T75 l1 x19_2).f2)):=(blk_cell BK8.out 2).trans rfl;have hcz109_3 : w108.cell? ⟨gb8,3,none⟩ = some (.int .i64 ((rd_T75 l1 x19_2).f3)):=(blk_cell BK8.out 3).trans rfl;have hfz109_0:=blk_frozen BK8.out 0;have hfz109_1:=blk_frozen BK8.out 1;have hfz109_2:=blk_frozen BK8.out 2;have hfz109_3:=blk_frozen BK8.out 3) | (go_at_call 75;(with_reducible refine (impl_within.calls ((rd_T75 l1 x19_2).f0) 0 5 true _ A20.out).mono ?_);rintro e w' ⟨rfl,⟨nd,rfl⟩⟩;have hcz110_0 : w108.cell? ⟨gb3,0,none⟩ = some (.int .i64 x4000_2):=(blk_cell BK3.out 0).trans rfl;have hcz110_1 : w108.cell? ⟨gb3,1,none⟩ = some (.int .i64 x4001_2):=(blk_cell BK3.out 1).trans rfl;have hcz110_2 : w108.cell? ⟨gb3,2,none⟩ = some (.int .i64 x4002_2):=(blk_cell BK3.out 2).trans rfl;have hcz110_3 : w108.cell? ⟨gb3,3,none⟩ = some (.int .i64 x4003_2):=(blk_cell BK3.out 3).trans rfl;have hfz110_0:=blk_frozen BK3.out 0;have hfz110_1:=blk_frozen BK3.out 1;have hfz110_2:=blk_frozen BK3.out 2;have hfz110_3:=blk_frozen BK3.out 3) | (go_at_call 99;(with_reducible refine (impl_Line_opens.calls x4000_2 x4001_2 x4002_2 x4003_2 false _ A85.out).mono ?_);rintro e w113 ⟨rfl,hb⟩;replace BK1:=kb_ BK1 hb;replace BK3:=kb_ BK3 hb;replace BK8:=kb_ BK8 hb;replace HB:=a0_ (below_step hbw_ hb);(try clear hb);have hcz114_0 : w113.cell? ⟨gb8,0,none⟩ = some (.int .i64 ((rd_T75 l1 x19_2).f0)):=(blk_cell BK8.out 0).trans rfl;have hcz114_1 : w113.cell? ⟨gb8,1,none⟩ = some (.int .i64 ((rd_T75 l1 x19_2).f1)):=(blk_cell BK8.out 1).trans rfl;have hcz114_2 : w113.cell? ⟨gb8,2,none⟩ = some (.int .i64 ((rd_T75 l1 x19_2).f2)):=(blk_cell BK8.out 2).trans rfl;have hcz114_3 : w113.cell? ⟨gb8,3,none⟩ = some (.int .i64 ((rd_T75 l1 x19_2).f3)):=(blk_cell BK8.out 3).trans rfl;have hfz114_0:=blk_frozen BK8.out 0;have hfz114_1:=blk_frozen BK8.out 1;have hfz114_2:=blk_frozen BK8.out 2;have hfz114_3:=blk_frozen BK8.out 3;have hcz115_0 : w113.cell? ⟨gb3,0,none⟩ = some (.int .i64 x4000_2):=(blk_cell BK3.out 0).trans rfl;have hcz115_1 : w113.cell? ⟨gb3,1,none⟩ = some (.int .i64 x4001_2):=(blk_cell BK3.out 1).trans rfl;have hcz115_2 : w113.cell? ⟨gb3,2,none⟩ = some (.int .i64 x4002_2):=(blk_cell BK3.out 2).trans rfl;have hcz115_3 : w113.cell? ⟨gb3,3,none⟩ = some (.int .i64 x4003_2):=(blk_cell BK3.out 3).trans rfl;have hfz115_0:=blk_frozen BK3.out 0;have hfz115_1:=blk_frozen BK3.out 1;have hfz115_2:=blk_frozen BK3.out 2;have hfz115_3:=blk_frozen BK3.out 3));go_ret;exact ⟨by first | rfl | (simp [errW_none,errW_some] <;> rfl) | (simp [*,errW_none,errW_some] <;> rfl),hbw_⟩
             ·rw [if_neg c101] at H
              have c101b0 : decide (x4000_2 < ((rd_T75 l1 x19_2).f0)) = false:=decide_eq_false c101;clear c101;have H':=a0_ H;clear H;have p7 : 0 ≤ (x19_2 : Int):=od_;have q7 : x19_2 < (l1.length : Int):=od_;obtain ⟨ad7,e7,hx7_0,hx7_1,hx7_2,hx7_3⟩:=at_T75 HR1.out x19_2 p7 q7;cases e7;replace hx7_0:=cl_ HB.out hx7_0;replace hx7_1:=cl_ HB.out hx7_1;replace hx7_2:=cl_ HB.out hx7_2;replace hx7_3:=cl_ HB.out hx7_3;replace p7:=eq_true p7;replace q7:=eq_true q7;go_wp2_with (first | ((with_reducible refine gate_dst (N:=7) rfl ?_);(try (refine gate_guard (by rfl) ?_;dsimp only));refine box_event ?hg (N:=7) ?hd (cs:=#[.int .i64 0,.int .i64 0,.int .i64 0,.int .i64 0]) (t:=75) ?hr ?_;(case hd=>rfl);(case hg=>rfl);(case hr=>first | (go_simp;done) | (go_simp;rfl));intro gb8 hg w116 hbox hb;have n0_:=kb_ BK1 hb;have n1_:=kb_ BK3 hb;have n2_:=a0_ (below_step hbw_ hb);have n3_:=a0_ (hbox);have n4_:=a0_ ((by rw [hg];exact (below_size hbw_) : w.heap.size ≤ gb8));have n5_:=a0_ ((by rw [hg];exact (below_size hbw_) : w.heap.size ≤ gb8));have n6_:=a0_ ((by rw [hg];exact Nat.ne_of_lt (blk_lt (bb_ BK1.out)) : gb1 ≠ gb8));have n7_:=a0_ ((by rw [hg];exact Nat.ne_of_gt (blk_lt (bb_ BK1.out)) : gb8 ≠ gb1));have n8_:=a0_ ((by rw [hg];exact Nat.ne_of_lt (blk_lt (bb_ BK3.out)) : gb3 ≠ gb8));have n9_:=a0_ ((by rw [hg];exact Nat.ne_of_gt (blk_lt (bb_ BK3.out)) : gb8 ≠ gb3));clear BK1 BK3 HB;have BK1:=n0_;have BK3:=n1_;have HB:=n2_;have BK8:=n3_;have GW8:=n4_;have GE8:=n5_;have NB1_8:=n6_;have NB8_1:=n7_;have NB3_8:=n8_;have NB8_3:=n9_;clear n0_ n1_ n2_ n3_ n4_ n5_ n6_ n7_ n8_ n9_;clear hb hbox hg;have hnb117:=NB8_1.out;have hnc117:=NB1_8.out;have hnb118:=NB8_3.out;have hnc118:=NB3_8.out;have hcz119_0 : w116.cell? ⟨gb8,0,none⟩ = some (.int .i64 0):=(blk_cell BK8.out 0).trans rfl;have hcz119_1 : w116.cell? ⟨gb8,1,none⟩ = some (.int .i64 0):=(blk_cell BK8.out 1).trans rfl;have hcz119_2 : w116.cell? ⟨gb8,2,none⟩ = some (.int .i64 0):=(blk_cell BK8.out 2).trans rfl;have hcz119_3 : w116.cell? ⟨gb8,3,none⟩ = some (.int .i64 0):=(blk_cell BK8.out 3).trans rfl;have hfz119_0:=blk_frozen BK8.out 0;have hfz119_1:=blk_frozen BK8.out 1;have hfz119_2:=blk_frozen BK8.out 2;have hfz119_3:=blk_frozen BK8.out 3;have hnb120:=NB1_3.out;have hnc120:=NB3_1.out;have hcz121_0 : w116.cell? ⟨gb1,0,none⟩ = some (.slice A0_0 l0_0.length c0_0):=(blk_cell BK1.out 0).trans rfl;have hfz121_0:=blk_frozen BK1.out 0) | ((with_reducible refine gate_callee (f:=98) rfl ?_);refine goesL_ (some 25) rfl rfl Try.func98 (by kernel_rfl) rfl #[.agg #[.int .i64 ((rd_T75 l1 x19_2).f0),.int .i64 ((rd_T75 l1 x19_2).f1),.int .i64 ((rd_T75 l1 x19_2).f2),.int .i64 ((rd_T75 l1 x19_2).f3)],.agg #[.slice A0_0 l0_0.length c0_0]] rfl lm_ ?_;(with_reducible refine (impl_Line_argued.calls k2 ((rd_T75 l1 x19_2).f0) ((rd_T75 l1 x19_2).f1) ((rd_T75 l1 x19_2).f2) ((rd_T75 l1 x19_2).f3) _ _ l0_0 true _ ?side1 ?side2 A18.out).mono ?_);(case side1=>exact Kd.C_below HR0_0.out hbw_);(case side2=>exact HC0_0.out);rintro e w122 ⟨rfl,hb⟩;refine ⟨_,rfl,?_⟩;replace BK1:=a0_ (blk_below (g:=gb1) (o:=.cells #[.slice A0_0 l0_0.length c0_0] 25 (0,0)) (bff_ BK1.out) hb);replace BK3:=a0_ (blk_below (g:=gb3) (o:=.cells #[.int .i64 x4000_2,.int .i64 x4001_2,.int .i64 x4002_2,.int .i64 x4003_2] 75 (0,0)) (bff_ BK3.out) hb);replace BK8:=a0_ (blk_below (g:=gb8) (o:=.cells #[.int .i64 ((rd_T75 l1 x19_2).f0),.int .i64 ((rd_T75 l1 x19_2).f1),.int .i64 ((rd_T75 l1 x19_2).f2),.int .i64 ((rd_T75 l1 x19_2).f3)] 75 (0,0)) (by (with_reducible repeat (first | refine blk_drewN ?_ _ | refine blk_drew ?_ | refine blk_alloc ?_ _));refine blk_put (cs:=#[.int .i64 ((rd_T75 l1 x19_2).f0),.int .i64 ((rd_T75 l1 x19_2).f1),.int .i64 ((rd_T75 l1 x19_2).f2),.int .i64 0]) ?_ 3 _ rfl;(with_reducible repeat (first | refine blk_drewN ?_ _ | refine blk_drew ?_ | refine blk_alloc ?_ _));refine blk_put (cs:=#[.int .i64 ((rd_T75 l1 x19_2).f0),.int .i64 ((rd_T75 l1 x19_2).f1),.int .i64 0,.int .i64 0]) ?_ 2 _ rfl;(with_reducible repeat (first | refine blk_drewN ?_ _ | refine blk_drew ?_ | refine blk_alloc ?_ _));refine blk_put (cs:=#[.int .i64 ((rd_T75 l1 x19_2).f0),.int .i64 0,.int .i64 0,.int .i64 0]) ?_ 1 _ rfl;(with_reducible repeat (first | refine blk_drewN ?_ _ | refine blk_drew ?_ | refine blk_alloc ?_ _));refine blk_put (cs:=#[.int .i64 0,.int .i64 0,.int .i64 0,.int .i64 0]) ?_ 0 _ rfl;(with_reducible repeat (first | refine blk_drewN ?_ _ | refine blk_drew ?_ | refine blk_alloc ?_ _));exact BK8.out) hb);replace HB:=a0_ (below_step hbw_ hb);(try clear hb);have hcz123_0 : w122.cell? ⟨gb8,0,none⟩ = some (.int .i64 ((rd_T75 l1 x19_2).f0)):=(blk_cell BK8.out 0).trans rfl;have hcz123_1 : w122.cell? ⟨gb8,1,none⟩ = some (.int .i64 ((rd_T75 l1 x19_2).f1)):=(blk_cell BK8.out 1).trans rfl;have hcz123_2 : w122.cell? ⟨gb8,2,none⟩ = some (.int .i64 ((rd_T75 l1 x19_2).f2)):=(blk_cell BK8.out 2).trans rfl;have hcz123_3 : w122.cell? ⟨gb8,3,none⟩ = some (.int .i64 ((rd_T75 l1 x19_2).f3)):=(blk_cell BK8.out 3).trans rfl;have hfz123_0:=blk_frozen BK8.out 0;have hfz123_1:=blk_frozen BK8.out 1;have hfz123_2:=blk_frozen BK8.out 2;have hfz123_3:=blk_frozen BK8.out 3) | (go_at_call 75;(with_reducible refine (impl_within.calls ((rd_T75 l1 x19_2).f0) 0 5 true _ A20.out).mono ?_);rintro e w' ⟨rfl,⟨nd,rfl⟩⟩;(try (rw [drewN_self w122];generalize hq_ : World.drewN w122 _ = w122;have n0_ : Aside0 (w122.heap[gb1]? = some (.cells #[.slice A0_0 l0_0.length c0_0] 25 (0,0))):=⟨by rw [← hq_];exact (bb_ BK1.out)⟩;have n1_ : Aside0 (w122.heap[gb3]? = some (.cells #[.int .i64 x4000_2,.int .i64 x4001_2,.int .i64 x4002_2,.int .i64 x4003_2] 75 (0,0))):=⟨by rw [← hq_];exact (bb_ BK3.out)⟩;have n2_ : Aside0 (w122.heap[gb8]? = some (.cells #[.int .i64 ((rd_T75 l1 x19_2).f0),.int .i64 ((rd_T75 l1 x19_2).f1),.int .i64 ((rd_T75 l1 x19_2).f2),.int .i64 ((rd_T75 l1 x19_2).f3)] 75 (0,0))):=⟨by rw [← hq_];exact (bb_ BK8.out)⟩;have n3_ : Aside0 (Below w.heap.size w w122):=⟨by rw [← hq_];exact hbw_⟩;clear BK1 BK3 BK8 HB hq_;have BK1:=n0_;have BK3:=n1_;have BK8:=n2_;have HB:=n3_;clear n0_ n1_ n2_ n3_));have hcz124_0 : w122.cell? ⟨gb3,0,none⟩ = some (.int .i64 x4000_2):=(blk_cell BK3.out 0).trans rfl;have hcz124_1 : w122.cell? ⟨gb3,1,none⟩ = some (.int .i64 x4001_2):=(blk_cell BK3.out 1).trans rfl;have hcz124_2 : w122.cell? ⟨gb3,2,none⟩ = some (.int .i64 x4002_2):=(blk_cell BK3.out 2).trans rfl;have hcz124_3 : w122.cell? ⟨gb3,3,none⟩ = some (.int .i64 x4003_2):=(blk_cell BK3.out 3).trans rfl;have hfz124_0:=blk_frozen BK3.out 0;have hfz124_1:=blk_frozen BK3.out 1;have hfz124_2:=blk_frozen BK3.out 2;have hfz124_3:=blk_frozen BK3.out 3) | (go_at_call 99;(with_reducible refine (impl_Line_opens.calls x4000_2 x4001_2 x4002_2 x4003_2 false _ A85.out).mono ?_);rintro e w127 ⟨rfl,hb⟩;replace BK1:=kb_ BK1 hb;replace BK3:=kb_ BK3 hb;replace BK8:=kb_ BK8 hb;replace HB:=a0_ (below_step hbw_ hb);(try clear hb);have hcz128_0 : w127.cell? ⟨gb8,0,none⟩ = some (.int .i64 ((rd_T75 l1 x19_2).f0)):=(blk_cell BK8.out 0).trans rfl;have hcz128_1 : w127.cell? ⟨gb8,1,none⟩ = some (.int .i64 ((rd_T75 l1 x19_2).f1)):=(blk_cell BK8.out 1).trans rfl;have hcz128_2 : w127.cell? ⟨gb8,2,none⟩ = some (.int .i64 ((rd_T75 l1 x19_2).f2)):=(blk_cell BK8.out 2).trans rfl;have hcz128_3 : w127.cell? ⟨gb8,3,none⟩ = some (.int .i64 ((rd_T75 l1 x19_2).f3)):=(blk_cell BK8.out 3).trans rfl;have hfz128_0:=blk_frozen BK8.out 0;have hfz128_1:=blk_frozen BK8.out 1;have hfz128_2:=blk_frozen BK8.out 2;have hfz128_3:=blk_frozen BK8.out 3;have hcz129_0 : w127.cell? ⟨gb3,0,none⟩ = some (.int .i64 x4000_2):=(blk_cell BK3.out 0).trans rfl;have hcz129_1 : w127.cell? ⟨gb3,1,none⟩ = some (.int .i64 x4001_2):=(blk_cell BK3.out 1).trans rfl;have hcz129_2 : w127.cell? ⟨gb3,2,none⟩ = some (.int .i64 x4002_2):=(blk_cell BK3.out 2).trans rfl;have hcz129_3 : w127.cell? ⟨gb3,3,none⟩ = some (.int .i64 x4003_2):=(blk_cell BK3.out 3).trans rfl;have hfz129_0:=blk_frozen BK3.out 0;have hfz129_1:=blk_frozen BK3.out 1;have hfz129_2:=blk_frozen BK3.out 2;have hfz129_3:=blk_frozen BK3.out 3));go_roundg k2
              case measure=>have:=HJ2.out;have:=HK2.out;omega
              case rel=>exact ⟨(wrap64 (x19_2 + 1)),((rd_T75 l1 x19_2).f0),((rd_T75 l1 x19_2).f1),((rd_T75 l1 x19_2).f2),((rd_T75 l1 x19_2).f3),(by first | rfl | (simp;done) | (simp [*];done)),H',⟨by have:=HJ2.out;have:=HK2.out;omega⟩,⟨by (with_reducible repeat (first | refine blk_drewN ?_ _ | refine blk_drew ?_ | refine blk_alloc ?_ _));refine blk_far ?_ NB1_3.out _;(with_reducible repeat (first | refine blk_drewN ?_ _ | refine blk_drew ?_ | refine blk_alloc ?_ _));refine blk_far ?_ NB1_3.out _;(with_reducible repeat (first | refine blk_drewN ?_ _ | refine blk_drew ?_ | refine blk_alloc ?_ _));refine blk_far ?_ NB1_3.out _;(with_reducible repeat (first | refine blk_drewN ?_ _ | refine blk_drew ?_ | refine blk_alloc ?_ _));refine blk_far ?_ NB1_3.out _;(with_reducible repeat (first | refine blk_drewN ?_ _ | refine blk_drew ?_ | refine blk_alloc ?_ _));exact BK1.out⟩,⟨by (with_reducible repeat (first | refine blk_drewN ?_ _ | refine blk_drew ?_ | refine blk_alloc ?_ _));refine blk_put (cs:=#[.int .i64 ((rd_T75 l1 x19_2).f0),.int .i64 ((rd_T75 l1 x19_2).f1),.int .i64 ((rd_T75 l1 x19_2).f2),.int .i64 x4003_2]) ?_ 3 _ rfl;(with_reducible repeat (first | refine blk_drewN ?_ _ | refine blk_drew ?_ | refine blk_alloc ?_ _));refine blk_put (cs:=#[.int .i64 ((rd_T75 l1 x19_2).f0),.int .i64 ((rd_T75 l1 x19_2).f1),.int .i64 x4002_2,.int .i64 x4003_2]) ?_ 2 _ rfl;(with_reducible repeat (first | refine blk_drewN ?_ _ | refine blk_drew ?_ | refine blk_alloc ?_ _));refine blk_put (cs:=#[.int .i64 ((rd_T75 l1 x19_2).f0),.int .i64 x4001_2,.int .i64 x4002_2,.int .i64 x4003_2]) ?_ 1 _ rfl;(with_reducible repeat (first | refine blk_drewN ?_ _ | refine blk_drew ?_ | refine blk_alloc ?_ _));refine blk_put (cs:=#[.int .i64 x4000_2,.int .i64 x4001_2,.int .i64 x4002_2,.int .i64 x4003_2]) ?_ 0 _ rfl;(with_reducible repeat (first | refine blk_drewN ?_ _ | refine blk_drew ?_ | refine blk_alloc ?_ _));exact BK3.out⟩,⟨hbw_⟩⟩
          ·replace c21:=Bool.eq_false_iff.mpr c21
           subst c21
           have H1 : (some false) = some r:=by rw [if_neg (show ¬ (false = true) by decide)] at H;exact H
           clear H;have H:=H1;clear H1;obtain rfl:=Option.some.inj H;have p7 : 0 ≤ (x19_2 : Int):=od_;have q7 : x19_2 < (l1.length : Int):=od_;obtain ⟨ad7,e7,hx7_0,hx7_1,hx7_2,hx7_3⟩:=at_T75 HR1.out x19_2 p7 q7;cases e7;replace hx7_0:=cl_ HB.out hx7_0;replace hx7_1:=cl_ HB.out hx7_1;replace hx7_2:=cl_ HB.out hx7_2;replace hx7_3:=cl_ HB.out hx7_3;replace p7:=eq_true p7;replace q7:=eq_true q7;go_wp2_with (first | ((with_reducible refine gate_dst (N:=7) rfl ?_);(try (refine gate_guard (by rfl) ?_;dsimp only));refine box_event ?hg (N:=7) ?hd (cs:=#[.int .i64 0,.int .i64 0,.int .i64 0,.int .i64 0]) (t:=75) ?hr ?_;(case hd=>rfl);(case hg=>rfl);(case hr=>first | (go_simp;done) | (go_simp;rfl));intro gb8 hg w130 hbox hb;have n0_:=kb_ BK1 hb;have n1_:=kb_ BK3 hb;have n2_:=a0_ (below_step hbw_ hb);have n3_:=a0_ (hbox);have n4_:=a0_ ((by rw [hg];exact (below_size hbw_) : w.heap.size ≤ gb8));have n5_:=a0_ ((by rw [hg];exact (below_size hbw_) : w.heap.size ≤ gb8));have n6_:=a0_ ((by rw [hg];exact Nat.ne_of_lt (blk_lt (bb_ BK1.out)) : gb1 ≠ gb8));have n7_:=a0_ ((by rw [hg];exact Nat.ne_of_gt (blk_lt (bb_ BK1.out)) : gb8 ≠ gb1));have n8_:=a0_ ((by rw [hg];exact Nat.ne_of_lt (blk_lt (bb_ BK3.out)) : gb3 ≠ gb8));have n9_:=a0_ ((by rw [hg];exact Nat.ne_of_gt (blk_lt (bb_ BK3.out)) : gb8 ≠ gb3));clear BK1 BK3 HB;have BK1:=n0_;have BK3:=n1_;have HB:=n2_;have BK8:=n3_;have GW8:=n4_;have GE8:=n5_;have NB1_8:=n6_;have NB8_1:=n7_;have NB3_8:=n8_;have NB8_3:=n9_;clear n0_ n1_ n2_ n3_ n4_ n5_ n6_ n7_ n8_ n9_;clear hb hbox hg;have hnb131:=NB8_1.out;have hnc131:=NB1_8.out;have hnb132:=NB8_3.out;have hnc132:=NB3_8.out;have hcz133_0 : w130.cell? ⟨gb8,0,none⟩ = some (.int .i64 0):=(blk_cell BK8.out 0).trans rfl;have hcz133_1 : w130.cell? ⟨gb8,1,none⟩ = some (.int .i64 0):=(blk_cell BK8.out 1).trans rfl;have hcz133_2 : w130.cell? ⟨gb8,2,none⟩ = some (.int .i64 0):=(blk_cell BK8.out 2).trans rfl;have hcz133_3 : w130.cell? ⟨gb8,3,none⟩ = some (.int .i64 0):=(blk_cell BK8.out 3).trans rfl;have hfz133_0:=blk_frozen BK8.out 0;have hfz133_1:=blk_frozen BK8.out 1;have hfz133_2:=blk_frozen BK8.out 2;have hfz133_3:=blk_frozen BK8.out 3;have hnb134:=NB1_3.out;have hnc134:=NB3_1.out;have hcz135_0 : w130.cell? ⟨gb1,0,none⟩ = some (.slice A0_0 l0_0.length c0_0):=(blk_cell BK1.out 0).trans rfl;have hfz135_0:=blk_frozen BK1.out 0) | ((with_reducible refine gate_callee (f:=98) rfl ?_);refine goesL_ (some 25) rfl rfl Try.func98 (by kernel_rfl) rfl #[.agg #[.int .i64 ((rd_T75 l1 x19_2).f0),.int .i64 ((rd_T75 l1 x19_2).f1),.int .i64 ((rd_T75 l1 x19_2).f2),.int .i64 ((rd_T75 l1 x19_2).f3)],.agg #[.slice A0_0 l0_0.length c0_0]] rfl lm_ ?_;(with_reducible refine (impl_Line_argued.calls k2 ((rd_T75 l1 x19_2).f0) ((rd_T75 l1 x19_2).f1) ((rd_T75 l1 x19_2).f2) ((rd_T75 l1 x19_2).f3) _ _ l0_0 true _ ?side1 ?side2 A18.out).mono ?_);(case side1=>exact Kd.C_below HR0_0.out hbw_);(case side2=>exact HC0_0.out);rintro e w136 ⟨rfl,hb⟩;refine ⟨_,rfl,?_⟩;replace BK1:=a0_ (blk_below (g:=gb1) (o:=.cells #[.slice A0_0 l0_0.length c0_0] 25 (0,0)) (bff_ BK1.out) hb);replace BK3:=a0_ (blk_below (g:=gb3) (o:=.cells #[.int .i64 x4000_2,.int .i64 x4001_2,.int .i64 x4002_2,.int .i64 x4003_2] 75 (0,0)) (bff_ BK3.out) hb);replace BK8:=a0_ (blk_below (g:=gb8) (o:=.cells #[.int .i64 ((rd_T75 l1 x19_2).f0),.int .i64 ((rd_T75 l1 x19_2).f1),.int .i64 ((rd_T75 l1 x19_2).f2),.int .i64 ((rd_T75 l1 x19_2).f3)] 75 (0,0)) (by (with_reducible repeat (first | refine blk_drewN ?_ _ | refine blk_drew ?_ | refine blk_alloc ?_ _));refine blk_put (cs:=#[.int .i64 ((rd_T75 l1 x19_2).f0),.int .i64 ((rd_T75 l1 x19_2).f1),.int .i64 ((rd_T75 l1 x19_2).f2),.int .i64 0]) ?_ 3 _ rfl;(with_reducible repeat (first | refine blk_drewN ?_ _ | refine blk_drew ?_ | refine blk_alloc ?_ _));refine blk_put (cs:=#[.int .i64 ((rd_T75 l1 x19_2).f0),.int .i64 ((rd_T75 l1 x19_2).f1),.int .i64 0,.int .i64 0]) ?_ 2 _ rfl;(with_reducible repeat (first | refine blk_drewN ?_ _ | refine blk_drew ?_ | refine blk_alloc ?_ _));refine blk_put (cs:=#[.int .i64 ((rd_T75 l1 x19_2).f0),.int .i64 0,.int .i64 0,.int .i64 0]) ?_ 1 _ rfl;(with_reducible repeat (first | refine blk_drewN ?_ _ | refine blk_drew ?_ | refine blk_alloc ?_ _));refine blk_put (cs:=#[.int .i64 0,.int .i64 0,.int .i64 0,.int .i64 0]) ?_ 0 _ rfl;(with_reducible repeat (first | refine blk_drewN ?_ _ | refine blk_drew ?_ | refine blk_alloc ?_ _));exact BK8.out) hb);replace HB:=a0_ (below_step hbw_ hb);(try clear hb);have hcz137_0 : w136.cell? ⟨gb8,0,none⟩ = some (.int .i64 ((rd_T75 l1 x19_2).f0)):=(blk_cell BK8.out 0).trans rfl;have hcz137_1 : w136.cell? ⟨gb8,1,none⟩ = some (.int .i64 ((rd_T75 l1 x19_2).f1)):=(blk_cell BK8.out 1).trans rfl;have hcz137_2 : w136.cell? ⟨gb8,2,none⟩ = some (.int .i64 ((rd_T75 l1 x19_2).f2)):=(blk_cell BK8.out 2).trans rfl;have hcz137_3 : w136.cell? ⟨gb8,3,none⟩ = some (.int .i64 ((rd_T75 l1 x19_2).f3)):=(blk_cell BK8.out 3).trans rfl;have hfz137_0:=blk_frozen BK8.out 0;have hfz137_1:=blk_frozen BK8.out 1;have hfz137_2:=blk_frozen BK8.out 2;have hfz137_3:=blk_frozen BK8.out 3) | (go_at_call 75;(with_reducible refine (impl_within.calls ((rd_T75 l1 x19_2).f0) 0 5 false _ A20.out).mono ?_);rintro e w' ⟨rfl,⟨nd,rfl⟩⟩));go_ret;exact ⟨by first | rfl | (simp [errW_none,errW_some] <;> rfl) | (simp [*,errW_none,errW_some] <;> rfl),hbw_⟩
         ·replace c19:=Bool.eq_false_iff.mpr c19
          subst c19
          have H1 : (some false) = some r:=by rw [if_neg (show ¬ (false = true) by decide)] at H;exact H
          clear H;have H:=H1;clear H1;obtain rfl:=Option.some.inj H;have p7 : 0 ≤ (x19_2 : Int):=od_;have q7 : x19_2 < (l1.length : Int):=od_;obtain ⟨ad7,e7,hx7_0,hx7_1,hx7_2,hx7_3⟩:=at_T75 HR1.out x19_2 p7 q7;cases e7;replace hx7_0:=cl_ HB.out hx7_0;replace hx7_1:=cl_ HB.out hx7_1;replace hx7_2:=cl_ HB.out hx7_2;replace hx7_3:=cl_ HB.out hx7_3;replace p7:=eq_true p7;replace q7:=eq_true q7;go_wp2_with (first | ((with_reducible refine gate_dst (N:=7) rfl ?_);(try (refine gate_guard (by rfl) ?_;dsimp only));refine box_event ?hg (N:=7) ?hd (cs:=#[.int .i64 0,.int .i64 0,.int .i64 0,.int .i64 0]) (t:=75) ?hr ?_;(case hd=>rfl);(case hg=>rfl);(case hr=>first | (go_simp;done) | (go_simp;rfl));intro gb8 hg w138 hbox hb;have n0_:=kb_ BK1 hb;have n1_:=kb_ BK3 hb;have n2_:=a0_ (below_step hbw_ hb);have n3_:=a0_ (hbox);have n4_:=a0_ ((by rw [hg];exact (below_size hbw_) : w.heap.size ≤ gb8));have n5_:=a0_ ((by rw [hg];exact (below_size hbw_) : w.heap.size ≤ gb8));have n6_:=a0_ ((by rw [hg];exact Nat.ne_of_lt (blk_lt (bb_ BK1.out)) : gb1 ≠ gb8));have n7_:=a0_ ((by rw [hg];exact Nat.ne_of_gt (blk_lt (bb_ BK1.out)) : gb8 ≠ gb1));have n8_:=a0_ ((by rw [hg];exact Nat.ne_of_lt (blk_lt (bb_ BK3.out)) : gb3 ≠ gb8));have n9_:=a0_ ((by rw [hg];exact Nat.ne_of_gt (blk_lt (bb_ BK3.out)) : gb8 ≠ gb3));clear BK1 BK3 HB;have BK1:=n0_;have BK3:=n1_;have HB:=n2_;have BK8:=n3_;have GW8:=n4_;have GE8:=n5_;have NB1_8:=n6_;have NB8_1:=n7_;have NB3_8:=n8_;have NB8_3:=n9_;clear n0_ n1_ n2_ n3_ n4_ n5_ n6_ n7_ n8_ n9_;clear hb hbox hg;have hnb139:=NB8_1.out;have hnc139:=NB1_8.out;have hnb140:=NB8_3.out;have hnc140:=NB3_8.out;have hcz141_0 : w138.cell? ⟨gb8,0,none⟩ = some (.int .i64 0):=(blk_cell BK8.out 0).trans rfl;have hcz141_1 : w138.cell? ⟨gb8,1,none⟩ = some (.int .i64 0):=(blk_cell BK8.out 1).trans rfl;have hcz141_2 : w138.cell? ⟨gb8,2,none⟩ = some (.int .i64 0):=(blk_cell BK8.out 2).trans rfl;have hcz141_3 : w138.cell? ⟨gb8,3,none⟩ = some (.int .i64 0):=(blk_cell BK8.out 3).trans rfl;have hfz141_0:=blk_frozen BK8.out 0;have hfz141_1:=blk_frozen BK8.out 1;have hfz141_2:=blk_frozen BK8.out 2;have hfz141_3:=blk_frozen BK8.out 3;have hnb142:=NB1_3.out;have hnc142:=NB3_1.out;have hcz143_0 : w138.cell? ⟨gb1,0,none⟩ = some (.slice A0_0 l0_0.length c0_0):=(blk_cell BK1.out 0).trans rfl;have hfz143_0:=blk_frozen BK1.out 0) | ((with_reducible refine gate_callee (f:=98) rfl ?_);refine goesL_ (some 25) rfl rfl Try.func98 (by kernel_rfl) rfl #[.agg #[.int .i64 ((rd_T75 l1 x19_2).f0),.int .i64 ((rd_T75 l1 x19_2).f1),.int .i64 ((rd_T75 l1 x19_2).f2),.int .i64 ((rd_T75 l1 x19_2).f3)],.agg #[.slice A0_0 l0_0.length c0_0]] rfl lm_ ?_;(with_reducible refine (impl_Line_argued.calls k2 ((rd_T75 l1 x19_2).f0) ((rd_T75 l1 x19_2).f1) ((rd_T75 l1 x19_2).f2) ((rd_T75 l1 x19_2).f3) _ _ l0_0 false _ ?side1 ?side2 A18.out).mono ?_);(case side1=>exact Kd.C_below HR0_0.out hbw_);(case side2=>exact HC0_0.out);rintro e w144 ⟨rfl,hb⟩;refine ⟨_,rfl,?_⟩;replace BK1:=a0_ (blk_below (g:=gb1) (o:=.cells #[.slice A0_0 l0_0.length c0_0] 25 (0,0)) (bff_ BK1.out) hb);replace BK3:=a0_ (blk_below (g:=gb3) (o:=.cells #[.int .i64 x4000_2,.int .i64 x4001_2,.int .i64 x4002_2,.int .i64 x4003_2] 75 (0,0)) (bff_ BK3.out) hb);replace BK8:=a0_ (blk_below (g:=gb8) (o:=.cells #[.int .i64 ((rd_T75 l1 x19_2).f0),.int .i64 ((rd_T75 l1 x19_2).f1),.int .i64 ((rd_T75 l1 x19_2).f2),.int .i64 ((rd_T75 l1 x19_2).f3)] 75 (0,0)) (by (with_reducible repeat (first | refine blk_drewN ?_ _ | refine blk_drew ?_ | refine blk_alloc ?_ _));refine blk_put (cs:=#[.int .i64 ((rd_T75 l1 x19_2).f0),.int .i64 ((rd_T75 l1 x19_2).f1),.int .i64 ((rd_T75 l1 x19_2).f2),.int .i64 0]) ?_ 3 _ rfl;(with_reducible repeat (first | refine blk_drewN ?_ _ | refine blk_drew ?_ | refine blk_alloc ?_ _));refine blk_put (cs:=#[.int .i64 ((rd_T75 l1 x19_2).f0),.int .i64 ((rd_T75 l1 x19_2).f1),.int .i64 0,.int .i64 0]) ?_ 2 _ rfl;(with_reducible repeat (first | refine blk_drewN ?_ _ | refine blk_drew ?_ | refine blk_alloc ?_ _));refine blk_put (cs:=#[.int .i64 ((rd_T75 l1 x19_2).f0),.int .i64 0,.int .i64 0,.int .i64 0]) ?_ 1 _ rfl;(with_reducible repeat (first | refine blk_drewN ?_ _ | refine blk_drew ?_ | refine blk_alloc ?_ _));refine blk_put (cs:=#[.int .i64 0,.int .i64 0,.int .i64 0,.int .i64 0]) ?_ 0 _ rfl;(with_reducible repeat (first | refine blk_drewN ?_ _ | refine blk_drew ?_ | refine blk_alloc ?_ _));exact BK8.out) hb);replace HB:=a0_ (below_step hbw_ hb);(try clear hb);(try clear hb2);(try clear hk);(try clear hi)));go_ret;exact ⟨by first | rfl | (simp [errW_none,errW_some] <;> rfl) | (simp [*,errW_none,errW_some] <;> rfl),hbw_⟩
        ·rw [if_neg c17] at H
         exact absurd H (by simp)
       ·rw [if_neg c16] at H
        exact absurd H (by simp)
      ·rw [if_neg c15] at H
       have c15b0 : decide (x19_2 < (l1.length : Int)) = false:=decide_eq_false c15;clear c15;by_cases c145 : (l1.length : Int) = 0
       ·rw [if_pos c145] at H
        have c145b0 : ((l1.length : Int) == 0) = true:=beq_iff_eq.mpr c145;have c145b1 : ((l1.length : Int) != 0) = false:=bne_eq_false_iff_eq.mpr c145;clear c145;replace H:=Option.bind_eq_some_iff.mp H;obtain ⟨t4,A1460,H⟩:=H;replace H : (some t4) = some r:=H;have A146:=a0_ A1460;clear A1460;obtain rfl:=Option.some.inj H;go_wp2_with (first | (go_at_call 100;(with_reducible refine (impl_blockOk.calls k2 _ _ l1 0 (l1.length : Int) false t4 _ ?side1 ?side2 A146.out).mono ?_);(case side1=>exact cc_ (Kd.C_below HR1.out HB.out));(case side2=>exact HC1.out);rintro e w147 ⟨rfl,hb⟩;replace BK1:=kb_ BK1 hb;replace BK3:=kb_ BK3 hb;replace HB:=a0_ (below_step hbw_ hb);(try clear hb);(try clear hb2);(try clear hk);(try clear hi)));go_ret;exact ⟨by first | rfl | (simp [errW_none,errW_some] <;> rfl) | (simp [*,errW_none,errW_some] <;> rfl),hbw_⟩
       ·rw [if_neg c145] at H
        have c145b0 : ((l1.length : Int) == 0) = false:=beq_eq_false_iff_ne.mpr c145;have c145b1 : ((l1.length : Int) != 0) = true:=bne_iff_ne.mpr c145;have c145b2 : ¬ (l1 = []):=fun h_=>c145 (by rw [h_];rfl);replace H:=Option.bind_eq_some_iff.mp H;obtain ⟨t5,A1480,H⟩:=H;(try dsimp only at H);have A148:=a0_ A1480;clear A1480;by_cases c149 : t5 = true
        ·subst c149
         have H1 : (some false) = some r:=by rw [if_pos rfl] at H;exact H
         clear H;have H:=H1;clear H1;obtain rfl:=Option.some.inj H;have hnb150:=NB3_1.out;have hnc150:=NB1_3.out;have hcz151_0 : wr.cell? ⟨gb3,0,none⟩ = some (.int .i64 x4000_2):=(blk_cell BK3.out 0).trans rfl;have hcz151_1 : wr.cell? ⟨gb3,1,none⟩ = some (.int .i64 x4001_2):=(blk_cell BK3.out 1).trans rfl;have hcz151_2 : wr.cell? ⟨gb3,2,none⟩ = some (.int .i64 x4002_2):=(blk_cell BK3.out 2).trans rfl;have hcz151_3 : wr.cell? ⟨gb3,3,none⟩ = some (.int .i64 x4003_2):=(blk_cell BK3.out 3).trans rfl;have hfz151_0:=blk_frozen BK3.out 0;have hfz151_1:=blk_frozen BK3.out 1;have hfz151_2:=blk_frozen BK3.out 2;have hfz151_3:=blk_frozen BK3.out 3;go_wp2_with (first | (go_at_call 99;(with_reducible refine (impl_Line_opens.calls x4000_2 x4001_2 x4002_2 x4003_2 true _ A148.out).mono ?_);rintro e w152 ⟨rfl,hb⟩;replace BK1:=kb_ BK1 hb;replace BK3:=kb_ BK3 hb;replace HB:=a0_ (below_step hbw_ hb);(try clear hb);(try clear hb2);(try clear hk);(try clear hi)));go_ret;exact ⟨by first | rfl | (simp [errW_none,errW_some] <;> rfl) | (simp [*,errW_none,errW_some] <;> rfl),hbw_⟩
        ·replace c149:=Bool.eq_false_iff.mpr c149
         subst c149
         have H1 : ((impl_blockOk.f k2 l1 0 (l1.length : Int) false).bind fun t6=>(some t6)) = some r:=by rw [if_neg (show ¬ (false = true) by decide)] at H;exact H
         clear H;have H:=H1;clear H1;replace H:=Option.bind_eq_some_iff.mp H;obtain ⟨t6,A1530,H⟩:=H;replace H : (some t6) = some r:=H;have A153:=a0_ A1530;clear A1530;obtain rfl:=Option.some.inj H;have hnb154:=NB3_1.out;have hnc154:=NB1_3.out;have hcz155_0 : wr.cell? ⟨gb3,0,none⟩ = some (.int .i64 x4000_2):=(blk_cell BK3.out 0).trans rfl;have hcz155_1 : wr.cell? ⟨gb3,1,none⟩ = some (.int .i64 x4001_2):=(blk_cell BK3.out 1).trans rfl;have hcz155_2 : wr.cell? ⟨gb3,2,none⟩ = some (.int .i64 x4002_2):=(blk_cell BK3.out 2).trans rfl;have hcz155_3 : wr.cell? ⟨gb3,3,none⟩ = some (.int .i64 x4003_2):=(blk_cell BK3.out 3).trans rfl;have hfz155_0:=blk_frozen BK3.out 0;have hfz155_1:=blk_frozen BK3.out 1;have hfz155_2:=blk_frozen BK3.out 2;have hfz155_3:=blk_frozen BK3.out 3;go_wp2_with (first | (go_at_call 99;(with_reducible refine (impl_Line_opens.calls x4000_2 x4001_2 x4002_2 x4003_2 false _ A148.out).mono ?_);rintro e w156 ⟨rfl,hb⟩;replace BK1:=kb_ BK1 hb;replace BK3:=kb_ BK3 hb;replace HB:=a0_ (below_step hbw_ hb);(try clear hb);(try clear hb2);(try clear hk);(try clear hi)) | (go_at_call 100;(with_reducible refine (impl_blockOk.calls k2 _ _ l1 0 (l1.length : Int) false t6 _ ?side1 ?side2 A153.out).mono ?_);(case side1=>exact cc_ (Kd.C_below HR1.out HB.out));(case side2=>exact HC1.out);rintro e w157 ⟨rfl,hb⟩;replace BK1:=kb_ BK1 hb;replace BK3:=kb_ BK3 hb;replace HB:=a0_ (below_step hbw_ hb);(try clear hb);(try clear hb2);(try clear hk);(try clear hi)));go_ret;exact ⟨by first | rfl | (simp [errW_none,errW_some] <;> rfl) | (simp [*,errW_none,errW_some] <;> rfl),hbw_⟩
theorem impl_ValidProgram_l0 {t : List Cls} {l : List S75} (ht : t.length ≤ 9223372036854775807) (hl0 : Aside0 (l.length ≤ 1099511627776)) : ∀ (d i : Nat) (p2 p3 : Int),i + d = l.length → (∀ j,j < i → lnA t l j) →
  ∃ b,Ev (fun k=>impl_ValidProgram.l0 k l l (l.length : Int) (i : Int) t (pd l i) (pk l i) p2 p3) b ∧ (b = true ↔ (∀ j,i ≤ j → j < l.length → lnA t l j) ∧ lastL l ∧ ∀ j,j < l.length → lineOk l j):=by
 intro d
 induction d with
 | zero =>
  intro i p2 p3 hi hA
  obtain rfl : i = l.length:=by omega
  have blk : lastL l → ∃ b,Ev (fun k=>impl_blockOk.f k l 0 (l.length : Int) false) b ∧ (b = true ↔ ∀ j,j < l.length → lineOk l j):=by
   intro hla
   obtain ⟨b,hb,hbi⟩:=impl_blockOk_ev hl0.out (stl_of hA hla) l.length 0 l.length 0 false (by omega) (Nat.zero_le _) (Nat.le_refl _) (fun j _ hj=>(hA j hj).2.1) (fun h=>by
    have:=(hA 0 h).2.2.2.1 ⟨by rw [pk];omega,by rw [pk];omega⟩
    rw [pd] at this
    omega) (fun h=>absurd h (Nat.lt_irrefl _)) rfl rfl
   exact ⟨b,hb,hbi.trans ⟨fun h j hj=>h j (Nat.zero_le _) hj,fun h j _ hj=>h j hj⟩⟩
  have e1 : (∀ j,l.length ≤ j → j < l.length → lnA t l j):=fun j h1 h2=>absurd h1 (Nat.not_le_of_lt h2)
  by_cases h0 : l.length = 0
  ·obtain ⟨b,hb,hbi⟩:=blk (fun h=>by omega)
   refine ⟨b,Ev.succ ?_,hbi.trans ⟨fun h=>⟨e1,fun h=>by omega,h⟩,fun h=>h.2.2⟩⟩
   simp only [impl_ValidProgram.l0]
   exact Ev.neg (by omega) (Ev.pos (by omega) (Ev.bind hb (Ev.const rfl)))
  ·cases ho : (decide (7 ≤ pk l l.length) && decide (pk l l.length ≤ 12)) with
   | true =>
    refine ⟨false,Ev.succ ?_,fun h=>by simp at h,fun h=>absurd (by simpa using ho) (h.2.1 (by omega))⟩
    simp only [impl_ValidProgram.l0]
    refine Ev.neg (by omega) (Ev.neg (by omega) (Ev.bind (Ev.const (impl_Line_opens_ev _ _ _ _)) ?_))
    rw [ho]
    exact Ev.pos rfl (Ev.const rfl)
   | false =>
    have hla : lastL l:=fun _ h=>by
     rw [decide_eq_true h.1,decide_eq_true h.2] at ho
     simp at ho
    obtain ⟨b,hb,hbi⟩:=blk hla
    refine ⟨b,Ev.succ ?_,hbi.trans ⟨fun h=>⟨e1,hla,h⟩,fun h=>h.2.2⟩⟩
    simp only [impl_ValidProgram.l0]
    refine Ev.neg (by omega) (Ev.neg (by omega) (Ev.bind (Ev.const (impl_Line_opens_ev _ _ _ _)) ?_))
    rw [ho]
    exact Ev.neg (by simp) (Ev.bind hb (Ev.const rfl))
 | succ d ih =>
  intro i p2 p3 hi hA
  have hlt : i < l.length:=by omega
  obtain ⟨hp1,hp2⟩:=pd_in hA
  have hw : Aside0 (wrap64 ((i : Int) + 1) = ((i + 1 : Nat) : Int)):=⟨wrap_nat_ hlt hl0.out⟩
  have hwp : Aside0 (wrap64 (pd l i + 1) = pd l i + 1):=⟨wrap_in (by omega) (by omega)⟩
  have hnum:=impl_Line_argued_ev t (rd_T75 l (i : Int)) ht
  have fail : ∀ {F : Nat → Option Bool},Ev F false → ¬ lnA t l i → ∃ b,Ev F b ∧ (b = true ↔ (∀ j,i ≤ j → j < l.length → lnA t l j) ∧ lastL l ∧ ∀ j,j < l.length → lineOk l j):=fun hF hn=>⟨false,hF,fun h=>by simp at h,fun h=>absurd (h.1 i (Nat.le_refl _) hlt) hn⟩
  have go : lnA t l i → ∃ b,Ev (fun k=>impl_ValidProgram.l0 k l l (l.length : Int) ((i + 1 : Nat) : Int) t (ld l i) (lk l i) (rd_T75 l (i : Int)).f2 (rd_T75 l (i : Int)).f3) b ∧ (b = true ↔ (∀ j,i ≤ j → j < l.length → lnA t l j) ∧ lastL l ∧ ∀ j,j < l.length → lineOk l j):=by
   intro hn
   obtain ⟨b,hb,hbi⟩:=ih (i + 1) (rd_T75 l (i : Int)).f2 (rd_T75 l (i : Int)).f3 (by omega) (fun j hj=>by
    by_cases e : j = i
    ·rw [e];exact hn
    ·exact hA j (by omega))
   refine ⟨b,hb,hbi.trans ⟨fun h=>⟨fun j hj hj2=>?_,h.2⟩,fun h=>⟨fun j hj hj2=>h.1 j (by omega) hj2,h.2⟩⟩⟩
   by_cases e : j = i
   ·rw [e];exact hn
   ·exact h.1 j (by omega) hj2
  have head : ∀ {b : Bool} {Q : Prop},(∃ b,Ev (fun k=>(impl_Line_argued.f k (ld l i) (lk l i) (rd_T75 l (i : Int)).f2 (rd_T75 l (i : Int)).f3 t).bind fun t9=>(if t9 = true then ((impl_within.f (ld l i) 0 5).bind fun t10=>(if t10 = true then ((impl_Line_opens.f (pd l i) (pk l i) p2 p3).bind fun t11=>(if t11 = true then (if (ld l i) = (pd l i + 1) then ((impl_Line_opens.f (pd l i) (pk l i) p2 p3).bind fun t12=>(if t12 = true then (impl_ValidProgram.l0 k l l (l.length : Int) ((i + 1 : Nat) : Int) t (ld l i) (lk l i) (rd_T75 l (i : Int)).f2 (rd_T75 l (i : Int)).f3) else (if (ld l i) > pd l i then (some false) else (impl_ValidProgram.l0 k l l (l.length : Int) ((i + 1 : Nat) : Int) t (ld l i) (lk l i) (rd_T75 l (i : Int)).f2 (rd_T75 l (i : Int)).f3)))) else (some false)) else ((impl_Line_opens.f (pd l i) (pk l i) p2 p3).bind fun t13=>(if t13 = true then (impl_ValidProgram.l0 k l l (l.length : Int) ((i + 1 : Nat) : Int) t (ld l i) (lk l i) (rd_T75 l (i : Int)).f2 (rd_T75 l (i : Int)).f3) else (if (ld l i) > pd l i then (some false) else (impl_ValidProgram.l0 k l l (l.length : Int) ((i + 1 : Nat) : Int) t (ld l i) (lk l i) (rd_T75 l (i : Int)).f2 (rd_T75 l (i : Int)).f3)))))) else (some false))) else (some false))) b ∧ (b = true ↔ Q)) → ∃ b,Ev (fun k=>impl_ValidProgram.l0 k l l (l.length : Int) (i : Int) t (pd l i) (pk l i) p2 p3) b ∧ (b = true ↔ Q):=by
   rintro _ Q ⟨b,hb,hbi⟩
   refine ⟨b,Ev.succ ?_,hbi⟩
   simp only [impl_ValidProgram.l0,hw.out,hwp.out,rd_ld_,rd_lk_]
   exact Ev.pos (by omega) (Ev.pos (by omega) (Ev.pos (by omega) hb))
  refine head (b:=true) ?_
  cases hn : numOk t (l.getD i z75) with
  | false =>
   refine fail (Ev.bind hnum ?_) (fun h=>by rw [h.1] at hn;simp at hn)
   have e : numOk t (rd_T75 l (i : Int)) = false:=hn
   rw [e]
   exact Ev.neg (by simp) (Ev.const rfl)
  | true =>
   have e : numOk t (rd_T75 l (i : Int)) = true:=hn
   rw [e] at hnum
   by_cases hr : 0 ≤ ld l i ∧ ld l i ≤ 5
   ·have e2 : (decide (0 ≤ ld l i) && decide (ld l i ≤ 5)) = true:=by simp [hr]
    have hin : impl_within.f (ld l i) 0 5 = some true:=by rw [impl_within_ev,e2]
    by_cases ho : 7 ≤ pk l i ∧ pk l i ≤ 12
    ·have ho2 : impl_Line_opens.f (pd l i) (pk l i) p2 p3 = some true:=by rw [impl_Line_opens_ev];simp [ho]
     by_cases hd : ld l i = pd l i + 1
     ·obtain ⟨b,hb,hbi⟩:=go ⟨hn,hr.1,hr.2,fun _=>hd,fun h=>absurd ho h⟩
      exact ⟨b,Ev.bind hnum (Ev.pos rfl (Ev.bind (Ev.const hin) (Ev.pos rfl (Ev.bind (Ev.const ho2) (Ev.pos rfl (Ev.pos hd (Ev.bind (Ev.const ho2) (Ev.pos rfl hb)))))))),hbi⟩
     ·exact fail (Ev.bind hnum (Ev.pos rfl (Ev.bind (Ev.const hin) (Ev.pos rfl (Ev.bind (Ev.const ho2) (Ev.pos rfl (Ev.neg hd (Ev.const rfl)))))))) (fun h=>hd (h.2.2.2.1 ho))
    ·have ho2 : impl_Line_opens.f (pd l i) (pk l i) p2 p3 = some false:=by
      rw [impl_Line_opens_ev]
      refine congrArg some ?_
      cases hq : (decide (7 ≤ pk l i) && decide (pk l i ≤ 12)) with
      | false=>rfl
      | true=>exact absurd (by simpa using hq) ho
     by_cases hd : ld l i ≤ pd l i
     ·obtain ⟨b,hb,hbi⟩:=go ⟨hn,hr.1,hr.2,fun h=>absurd h ho,fun _=>hd⟩
      exact ⟨b,Ev.bind hnum (Ev.pos rfl (Ev.bind (Ev.const hin) (Ev.pos rfl (Ev.bind (Ev.const ho2) (Ev.neg (by simp) (Ev.bind (Ev.const ho2) (Ev.neg (by simp) (Ev.neg (by omega) hb)))))))),hbi⟩
     ·exact fail (Ev.bind hnum (Ev.pos rfl (Ev.bind (Ev.const hin) (Ev.pos rfl (Ev.bind (Ev.const ho2) (Ev.neg (by simp) (Ev.bind (Ev.const ho2) (Ev.neg (by simp) (Ev.pos (by omega) (Ev.const rfl)))))))))) (fun h=>hd (h.2.2.2.2 ho))
   ·refine fail (Ev.bind hnum (Ev.pos rfl (Ev.bind (Ev.const (impl_within_ev _ _ _)) ?_))) (fun h=>hr ⟨h.2.1,h.2.2.1⟩)
    exact Ev.neg (fun h=>hr (by simpa using h)) (Ev.const rfl)
theorem impl_ValidProgram_ev (t : List Cls) (l : List S75) (hs : smT t = true) (ht : t.length ≤ 9223372036854775807) (hl : l.length ≤ 1099511627776) : ∃ b,Ev (fun k=>impl_ValidProgram.f k t l) b ∧ (b = true ↔ vP t l):=by
 have hv : impl_ValidTree.f t = some (vT t):=by rw [impl_ValidTree.f,if_pos hs]
 have J : ∀ x,(x = true → ¬ vP t l) → ∃ b,Ev (fun k=>impl_ValidProgram.j0 k l x t) b ∧ (b = true ↔ x = false ∧ ((∀ j,j < l.length → lnA t l j) ∧ lastL l ∧ ∀ j,j < l.length → lineOk l j)):=by
  intro x hx
  cases x with
  | true =>
   refine ⟨false,Ev.succ ?_,by simp⟩
   simp only [impl_ValidProgram.j0]
   exact Ev.pos (by simp) (Ev.const rfl)
  | false =>
   obtain ⟨b,hb,hbi⟩:=impl_ValidProgram_l0 (t:=t) (l:=l) ht ⟨hl⟩ l.length 0 0 0 (by omega) (fun j hj=>by omega)
   refine ⟨b,Ev.succ ?_,hbi.trans ⟨fun h=>⟨rfl,fun j hj=>h.1 j (Nat.zero_le _) hj,h.2⟩,fun h=>⟨fun j _ hj=>h.2.1 j hj,h.2.2⟩⟩⟩
   simp only [impl_ValidProgram.j0]
   exact Ev.neg (by simp) hb
 unfold impl_ValidProgram.f
 cases hvt : vT t with
 | true =>
  rw [hvt] at hv
  obtain ⟨b,hb,hbi⟩:=J (decide ((l.length : Int) > 24)) (fun h h2=>by have:=h2.2.1;have:=of_decide_eq_true h;omega)
  refine ⟨b,Ev.bind (Ev.const hv) (Ev.pos rfl hb),hbi.trans ⟨fun h=>⟨hvt,?_,h.2⟩,fun h=>⟨?_,h.2.2⟩⟩⟩
  ·have:=of_decide_eq_false h.1
   omega
  ·have:=h.2.1
   exact decide_eq_false (by omega)
 | false =>
  rw [hvt] at hv
  obtain ⟨b,hb,hbi⟩:=J true (fun _ h2=>by rw [h2.1] at hvt;simp at hvt)
  refine ⟨b,Ev.bind (Ev.const hv) (Ev.neg (by simp) hb),hbi.trans ⟨fun h=>by simp at h,fun h=>?_⟩⟩
  rw [h.1] at hvt
  simp at hvt
end Go.Proofs.Ytacgehaipacehaa.P
namespace Go.Proofs.Ytacgehaipacehaa.P
open Go.RowKit Go.Proofs.YtacgehaipacehaaW.PrintWords Go.Proofs.YtacgehaipacehaaW.PrintLast Go.Proofs.YtacgehaipacehaaW.PrintMore
attribute [local go_sem] max2_int min2_int max_two min_two max_three min_three max_four min_four
set_option linter.unusedVariables false
set_option linter.unusedSimpArgs false
def byL (b : List Int) : Prop:=b.length ≤ 2000 ∧ ∀ x ∈ b,0 ≤ x ∧ x ≤ 255
theorem byL_rd {b : List Int} (h : byL b) (i : Int) : 0 ≤ rd b i ∧ rd b i ≤ 255:=by
 unfold rd
 by_cases hi : i.toNat < b.length
 ·rw [List.getD_eq_getElem?_getD,List.getElem?_eq_getElem hi]
  exact h.2 _ (List.getElem_mem hi)
 ·rw [List.getD_eq_getElem?_getD,List.getElem?_eq_none (by omega)]
  show (0 : Int) ≤ 0 ∧ (0 : Int) ≤ 255
  omega
theorem xor_nonneg (x y : Int) (h0 : 0 ≤ x) (h1 : x < 4611686018427387904) (g0 : 0 ≤ y) (g1 : y < 4611686018427387904) : 0 ≤ Go.bits .xor .i64 x y:=by
 obtain ⟨a,rfl⟩:=Int.eq_ofNat_of_zero_le h0
 obtain ⟨b,rfl⟩:=Int.eq_ofNat_of_zero_le g0
 have ha : a < 2 ^ 62:=by omega
 have hb : b < 2 ^ 62:=by omega
 have ha' : a % 2 ^ 64 = a:=Nat.mod_eq_of_lt (by omega)
 have hb' : b % 2 ^ 64 = b:=Nat.mod_eq_of_lt (by omega)
 have hx:=Nat.xor_lt_two_pow ha hb
 have e : Go.bits .xor .i64 (a : Int) (b : Int) = ((a ^^^ b : Nat) : Int):=by
  have hk : IntKind.bits .i64 = 64:=rfl
  simp only [Go.bits,hk,BitVec.ofInt_natCast,BitVec.toNat_xor,BitVec.toNat_ofNat,ha',hb']
  rw [Go.IntKind.wrap_i64]
  generalize a ^^^ b = c at hx
  omega
 rw [e]
 omega
theorem tmod_in {x n : Int} (h0 : 0 ≤ x) (hn : 1 ≤ n) : 0 ≤ Int.tmod x n ∧ Int.tmod x n < n:=⟨Int.tmod_nonneg n h0,Int.tmod_lt_of_pos x (by omega)⟩
end Go.Proofs.Ytacgehaipacehaa.P
namespace Go.Proofs.Ytacgehaipacehaa.P
open Go.RowKit Go.Proofs.YtacgehaipacehaaW.PrintWords Go.Proofs.YtacgehaipacehaaW.PrintLast Go.Proofs.YtacgehaipacehaaW.PrintMore
attribute [local go_sem] max2_int min2_int max_two min_two max_three min_three max_four min_four
set_option linter.unusedVariables false
set_option linter.unusedSimpArgs false
def IsS148 (w0 W : World) (g : Nat) (f0 : List Int) (f1 : Int) : Prop:=∃ A0 c0,W.heap[g]? = some (.cells #[.slice A0 f0.length c0,.int .i64 f1] 148 (0,0)) ∧ w0.heap.size ≤ g ∧ Kd.C (Kd.int .u8) w0 A0 f0.length f0
theorem IsS148.grown {w0 W : World} {g : Nat} {f0 : List Int} {f1 : Int} {W1 : World} {row : Option Nat} (h : IsS148 w0 W g f0 f1) (hw : W.grownBy W1 row) (hne : some g ≠ row) : IsS148 w0 W1 g f0 f1:=by
 obtain ⟨A0,c0,hb,hg,hr0⟩:=h
 exact ⟨A0,c0,blk_grown hb hw hne,hg,hr0⟩
theorem IsS148.own_neN {w0 W : World} {g : Nat} {f0 : List Int} {f1 : Int} {α : Type} {d : Kd α} {e : Nat} {base : Nat} {ok : Nat → Prop} {v : Value} {xs : List α} (h : IsS148 w0 W g f0 f1) (ho : Kd.N d e W base ok v xs) (ht : e ≠ 148) : some g ≠ v.ownBlock:=by
 obtain ⟨A0,c0,hb,hg,hr0⟩:=h
 exact Kd.N_ne ho hb ht
theorem IsS148.fresh {w0 W : World} {g : Nat} {f0 : List Int} {f1 : Int} (h : IsS148 w0 W g f0 f1) : ∀ k,W.heap.size ≤ k → k ≠ g:=by
 obtain ⟨A0,c0,hb,hg,hr0⟩:=h
 exact Kd.freshB hb
theorem IsS148.kept {w0 W : World} {g : Nat} {f0 : List Int} {f1 : Int} {W1 : World} {S : Nat → Prop} (h : IsS148 w0 W g f0 f1) (hk : Kept W W1 S) (hne : ¬ S g) : IsS148 w0 W1 g f0 f1:=by
 obtain ⟨A0,c0,hb,hg,hr0⟩:=h
 exact ⟨A0,c0,blk_kept hb hk hne,hg,hr0⟩
theorem IsS148.below {w0 W : World} {g : Nat} {f0 : List Int} {f1 : Int} {W1 : World} (h : IsS148 w0 W g f0 f1) (hw : Below W.heap.size W W1) : IsS148 w0 W1 g f0 f1:=h.grown (grown_of_below hw none) (by simp)
theorem IsS148.alloc {w0 W : World} {g : Nat} {f0 : List Int} {f1 : Int} (h : IsS148 w0 W g f0 f1) (o : Obj) : IsS148 w0 (W.alloc o) g f0 f1:=h.below (below_alloc (Below.refl _ _) o)
theorem IsS148.drewN {w0 W : World} {g : Nat} {f0 : List Int} {f1 : Int} (h : IsS148 w0 W g f0 f1) (m : Nat) : IsS148 w0 (W.drewN m) g f0 f1:=h
theorem IsS148.drew {w0 W : World} {g : Nat} {f0 : List Int} {f1 : Int} (h : IsS148 w0 W g f0 f1) : IsS148 w0 W.drew g f0 f1:=h
theorem IsS148.at_ {w0 W : World} {g : Nat} {f0 : List Int} {f1 : Int} {w' : World} {m : Nat} (hq : W.drewN m = w') (h : IsS148 w0 W g f0 f1) : IsS148 w0 w' g f0 f1:=by subst hq;exact IsS148.drewN h m
theorem IsS148.apart {w0 W : World} {g : Nat} {f0 : List Int} {f1 : Int} {α : Type} {d : Kd α} {e : Nat} {base : Nat} {ok : Nat → Prop} {v : Value} {xs : List α} (h : IsS148 w0 W g f0 f1) (ho : d.R e W base ok v xs) (ht : ∀ q,q ∈ e :: d.E → q ≠ 148) : d.R e W base (fun k=>ok k ∧ k ≠ g) v xs:=by
 obtain ⟨A0,c0,hb,hg,hr0⟩:=h
 exact Kd.R_types ho hb ht
theorem IsS148.own_ne {w0 W : World} {g : Nat} {f0 : List Int} {f1 : Int} {α : Type} {d : Kd α} {e : Nat} {base : Nat} {ok : Nat → Prop} {v : Value} {xs : List α} (h : IsS148 w0 W g f0 f1) (ho : d.R e W base ok v xs) (ht : e ≠ 148) : some g ≠ v.ownBlock:=by
 obtain ⟨A0,c0,hb,hg,hr0⟩:=h
 exact Kd.R_ne ho hb ht
theorem IsS148.apartQ {w0 W : World} {g : Nat} {f0 : List Int} {f1 : Int} {α : Type} {d : Kd α} {e : Nat} {base : Nat} {ok : Nat → Prop} {v : Value} {xs : List α} (h : IsS148 w0 W g f0 f1) (ho : d.Q e W base ok v xs) (ht : ∀ q,q ∈ e :: d.E → q ≠ 148) : d.Q e W base (fun k=>ok k ∧ k ≠ g) v xs:=by
 obtain ⟨A0,c0,hb,hg,hr0⟩:=h
 exact Kd.Q_types ho hb ht
theorem IsS148.own_neQ {w0 W : World} {g : Nat} {f0 : List Int} {f1 : Int} {α : Type} {d : Kd α} {e : Nat} {base : Nat} {ok : Nat → Prop} {v : Value} {xs : List α} (h : IsS148 w0 W g f0 f1) (ho : d.Q e W base ok v xs) (ht : e ≠ 148) : some g ≠ v.ownBlock:=by
 obtain ⟨A0,c0,hb,hg,hr0⟩:=h
 exact Kd.Q_ne ho hb ht
theorem IsS148.apartS {w0 W : World} {g : Nat} {f0 : List Int} {f1 : Int} {α : Type} {d : Kd α} {e : Nat} {base : Nat} {ok : Nat → Prop} {v : Value} {xs : List α} (h : IsS148 w0 W g f0 f1) (ho : d.S e W base ok v xs) (ht : ∀ q,q ∈ e :: d.E → q ≠ 148) : d.S e W base (fun k=>ok k ∧ k ≠ g) v xs:=by
 obtain ⟨A0,c0,hb,hg,hr0⟩:=h
 exact Kd.S_types ho hb ht
theorem IsS148.own_neS {w0 W : World} {g : Nat} {f0 : List Int} {f1 : Int} {α : Type} {d : Kd α} {e : Nat} {base : Nat} {ok : Nat → Prop} {v : Value} {xs : List α} (h : IsS148 w0 W g f0 f1) (ho : d.S e W base ok v xs) (ht : e ≠ 148) : some g ≠ v.ownBlock:=by
 obtain ⟨A0,c0,hb,hg,hr0⟩:=h
 exact Kd.S_ne ho hb ht
theorem IsS148.lt {w0 W : World} {g : Nat} {f0 : List Int} {f1 : Int} (h : IsS148 w0 W g f0 f1) : g < W.heap.size:=by
 obtain ⟨A0,c0,hb,hg,hr0⟩:=h
 exact blk_lt hb
theorem IsS148.ge {w0 W : World} {g : Nat} {f0 : List Int} {f1 : Int} (h : IsS148 w0 W g f0 f1) : w0.heap.size ≤ g:=by
 obtain ⟨A0,c0,hb,hg,hr0⟩:=h
 exact hg
theorem IsS148.ne_blk {w0 W : World} {g : Nat} {f0 : List Int} {f1 : Int} {a : Nat} {cs : Array Value} {t : TypeId} {fr : Nat × Nat} (h : IsS148 w0 W g f0 f1) (hb2 : W.heap[a]? = some (.cells cs t fr)) (ht : t ≠ 148) : g ≠ a:=by
 obtain ⟨A0,c0,hb,hg,hr0⟩:=h
 rintro rfl
 rw [hb] at hb2
 injection hb2 with hb2
 injection hb2 with _ ht2
 exact ht ht2.symm
theorem IsS148.far {w0 W : World} {g : Nat} {f0 : List Int} {f1 : Int} {p : Addr} (h : IsS148 w0 W g f0 f1) (hne : g ≠ p.block) (u : Value) : IsS148 w0 (W.setCell p u) g f0 f1:=by
 obtain ⟨A0,c0,hb,hg,hr0⟩:=h
 exact ⟨A0,c0,blk_far hb hne u,hg,hr0⟩
theorem cellS148_0 {W : World} {g : Nat} {A0 : Option Addr} {c0 : Nat} {f0 : List Int} {f1 : Int} (h : W.heap[g]? = some (.cells #[.slice A0 f0.length c0,.int .i64 f1] 148 (0,0))) : W.cell? ⟨g,0,none⟩ = some (.slice A0 f0.length c0):=(blk_cell h 0).trans rfl
theorem cellS148_1 {W : World} {g : Nat} {A0 : Option Addr} {c0 : Nat} {f0 : List Int} {f1 : Int} (h : W.heap[g]? = some (.cells #[.slice A0 f0.length c0,.int .i64 f1] 148 (0,0))) : W.cell? ⟨g,1,none⟩ = some (.int .i64 f1):=(blk_cell h 1).trans rfl
theorem IsS148.set_1 {w0 W : World} {g : Nat} {f0 : List Int} {f1 : Int} (h : IsS148 w0 W g f0 f1) (x : Int) : IsS148 w0 (W.setCell ⟨g,1,none⟩ (.int .i64 x)) g f0 x:=by
 obtain ⟨A0,c0,hb,hg,hr0⟩:=h
 exact ⟨A0,c0,by simpa using blk_set hb 1 (.int .i64 x),hg,hr0⟩
theorem IsS148.new (w0 W : World) (A0 : Option Addr) (c0 : Nat) (f0 : List Int) (f1 : Int) (hB : Below w0.heap.size w0 W) (hr0 : Kd.C (Kd.int .u8) w0 A0 f0.length f0) : IsS148 w0 (W.alloc (.cells #[.slice A0 f0.length c0,.int .i64 f1] 148)) W.heap.size f0 f1:=⟨A0,c0,by simpa using heap_alloc_new W _,hB.size,hr0⟩
def spec_reader_pick.j0 : Nat → Int → Bool → List Int → Int → Option (Int × Int)
 | 0,_,_,_,_=>none
 | k + 1,x1,x24,x1000,x1001=>if x24 = true then (some (0,x1001)) else (if (wrap64 (x1001 - 1)) < (x1000.length : Int) then (if 0 ≤ (wrap64 (x1001 - 1)) then (if x1 = 0 then (none) else (some (Int.tmod (wrap64 (rd x1000 (wrap64 (x1001 - 1)))) x1,x1001))) else (none)) else (if (x1000.length : Int) = 0 then (none) else (if 0 ≤ (Int.tmod (wrap64 (x1001 - 1)) (x1000.length : Int)) then (if (Int.tmod (wrap64 (x1001 - 1)) (x1000.length : Int)) < (x1000.length : Int) then (if 0 ≤ (Int.tmod (wrap64 ((wrap64 ((wrap64 (x1001 - 1)) * 7)) + 3)) (x1000.length : Int)) then (if (Int.tmod (wrap64 ((wrap64 ((wrap64 (x1001 - 1)) * 7)) + 3)) (x1000.length : Int)) < (x1000.length : Int) then (if x1 = 0 then (none) else (some (Int.tmod (Go.bits .xor .i64 (wrap64 ((wrap64 ((wrap64 ((wrap64 ((wrap64 (rd x1000 (Int.tmod (wrap64 (x1001 - 1)) (x1000.length : Int)))) * 131)) + (wrap64 ((wrap64 (rd x1000 (Int.tmod (wrap64 ((wrap64 ((wrap64 (x1001 - 1)) * 7)) + 3)) (x1000.length : Int)))) * 1117)))) + (wrap64 ((wrap64 (x1001 - 1)) * 29)))) + (wrap64 ((wrap64 (Int.tdiv (wrap64 (x1001 - 1)) (x1000.length : Int))) * 53)))) (wrap64 (Int.tdiv (wrap64 ((wrap64 ((wrap64 ((wrap64 ((wrap64 (rd x1000 (Int.tmod (wrap64 (x1001 - 1)) (x1000.length : Int)))) * 131)) + (wrap64 ((wrap64 (rd x1000 (Int.tmod (wrap64 ((wrap64 ((wrap64 (x1001 - 1)) * 7)) + 3)) (x1000.length : Int)))) * 1117)))) + (wrap64 ((wrap64 (x1001 - 1)) * 29)))) + (wrap64 ((wrap64 (Int.tdiv (wrap64 (x1001 - 1)) (x1000.length : Int))) * 53)))) 64))) x1,x1001))) else (none)) else (none)) else (none)) else (none))))
def spec_reader_pick.f (k : Nat) (s0_0 : List Int) (s0_1 : Int) (a1 : Int) : Option (Int × Int):=if a1 < 1 then (spec_reader_pick.j0 k a1 true s0_0 (wrap64 (s0_1 + 1))) else (spec_reader_pick.j0 k a1 ((s0_0.length : Int) == 0) s0_0 (wrap64 (s0_1 + 1)))
theorem spec_reader_pick.mono_l : ∀ k,(∀ y0 y1 y2 y3,LeO (spec_reader_pick.j0 k y0 y1 y2 y3) (spec_reader_pick.j0 (k + 1) y0 y1 y2 y3))
 | 0=>fun _ _ _ _ r h=>by simp [spec_reader_pick.j0] at h
 | k + 1=>by
  have ih0:=spec_reader_pick.mono_l k
  ·intro y0 y1 y2 y3
   unfold spec_reader_pick.j0
   repeat' first
   | (with_reducible exact ih0 _ _ _ _)
   | (with_reducible exact LeO.refl _)
   | (with_reducible exact LeO.none _)
   | (with_reducible refine LeO.ite ?_ ?_)
   | (with_reducible refine LeO.bind ?_ (fun _=>?_))
theorem spec_reader_pick.mono : ∀ a0 a1 a2 k,LeO (spec_reader_pick.f k a0 a1 a2) (spec_reader_pick.f (k + 1) a0 a1 a2):=by
 intro a0 a1 a2 k
 have ih0:=spec_reader_pick.mono_l k
 unfold spec_reader_pick.f
 repeat' first
   | (with_reducible exact ih0 _ _ _ _)
   | (with_reducible exact LeO.refl _)
   | (with_reducible exact LeO.none _)
   | (with_reducible refine LeO.ite ?_ ?_)
   | (with_reducible refine LeO.bind ?_ (fun _=>?_))
set_option maxHeartbeats 8000000 in
set_option maxRecDepth 100000 in
theorem spec_reader_pick.calls (k : Nat) (g : Nat) (s0_0 : List Int) (s0_1 : Int) (a1 : Int) (r1 : Int) (r2 : Int) (w0 w : World) (hI : IsS148 w0 w g s0_0 s0_1) (hB : Below w0.heap.size w0 w) (h : spec_reader_pick.f k s0_0 s0_1 a1 = some (r1,r2)) :
  Calls Try.prog 110 #[.pointer (some ⟨g,0,none⟩),.int .i64 a1] w fun e w'=>e = .returned (.int .i64 r1) ∧ IsS148 w0 w' g s0_0 r2 ∧ Below w0.heap.size w0 w' ∧ KeepBut w w' g none:=by
 have HI0:=a0_ hI;have HK:=a0_ (KeepBut.refl w g none);have HL:=a0_ hB.size;clear hI;have HW0:=a0_ hB.size;have HB:=a0_ hB;clear hB;have H : (if a1 < 1 then (spec_reader_pick.j0 k a1 true s0_0 (wrap64 (s0_1 + 1))) else (spec_reader_pick.j0 k a1 ((s0_0.length : Int) == 0) s0_0 (wrap64 (s0_1 + 1)))) = some (r1,r2):=h;clear h;have HC3:=a0_ H;clear H;obtain ⟨ASz4_0,cSz4_0,HGz4,hgz4,HSz4_0⟩:=HI0.out;have hcz4_0:=cellS148_0 HGz4;have hcz4_1:=cellS148_1 HGz4;have hfz4_1:=blk_frozen HGz4 1;clear HGz4 hgz4;go_enter Try.func110,Try.ntmps110;go_upto_region 2 with (fail)
 repeat (go_quiet (fail);go_upto_region 2 with (fail))
 go_cut [24] (fun v24 wc=>∃ (kq : Nat) (x24_2 : Bool),v24 = .bool x24_2 ∧ Aside0 (spec_reader_pick.j0 kq a1 x24_2 s0_0 (wrap64 (s0_1 + 1)) = some (r1,r2)) ∧ Aside0 (kq ≤ k) ∧ Aside0 (IsS148 w0 wc g s0_0 (wrap64 (s0_1 + 1))) ∧ Aside0 (KeepBut w wc g none) ∧ Aside0 (Below w0.heap.size w0 wc))
 case first =>
  have H:=HC3.out;clear HC3;by_cases c5 : a1 < 1
  ·rw [if_pos c5] at H
   have c5b0 : decide (a1 < 1) = true:=decide_eq_true c5;clear c5;(first | rw [c5b0] | (simp only [i64_w,i32_w];rw [c5b0]) | skip);have H':=a0_ H;clear H;go_wp2
   repeat (go_quiet (fail);try go_wp2)
   go_meet
   case rel=>exact ⟨_,(true),(by first | rfl | (simp;done) | (simp [*];done)),H',⟨by first | omega | exact Nat.le_refl _⟩,⟨by repeat (first | (with_reducible first | exact HI0.out | apply IsS148.alloc | apply IsS148.drewN | apply IsS148.drew | apply IsS148.set_1) | exact HI0.out)⟩,⟨hk_⟩,⟨by repeat (first | (with_reducible first | exact HB.out | apply below_alloc | apply pw_below_drewN | apply below_drew1 | refine below_set ?_ (IsS148.ge HI0.out)) | exact HB.out)⟩⟩
  ·rw [if_neg c5] at H
   have c5b0 : decide (a1 < 1) = false:=decide_eq_false c5;clear c5;(first | rw [c5b0] | (simp only [i64_w,i32_w];rw [c5b0]) | skip);have H':=a0_ H;clear H;obtain ⟨ASz6_0,cSz6_0,HGz6,hgz6,HSz6_0⟩:=HI0.out;have hcz6_0:=cellS148_0 HGz6;have hcz6_1:=cellS148_1 HGz6;have hfz6_1:=blk_frozen HGz6 1;clear HGz6 hgz6;go_wp2
   repeat (go_quiet (fail);try go_wp2)
   go_meet
   case rel=>exact ⟨_,(((s0_0.length : Int) == 0)),(by first | rfl | (simp;done) | (simp [*];done)),H',⟨by first | omega | exact Nat.le_refl _⟩,⟨by repeat (first | (with_reducible first | exact HI0.out | apply IsS148.alloc | apply IsS148.drewN | apply IsS148.drew | apply IsS148.set_1) | exact HI0.out)⟩,⟨hk_⟩,⟨by repeat (first | (with_reducible first | exact HB.out | apply below_alloc | apply pw_below_drewN | apply below_drew1 | refine below_set ?_ (IsS148.ge HI0.out)) | exact HB.out)⟩⟩
 case rest =>
  clear HC3;(try clear c1);(try clear p2);(try clear c5);(try clear c5b0);(try clear p6);(try clear hcz4_0);(try clear hcz4_1);(try clear hcz6_0);(try clear hcz6_1);(try clear hfz4_1);(try clear hfz6_1);obtain ⟨kq,x24_2,rfl,HA,HJ2,HI0,HK,HB⟩:=hcut
  cases kq with
  | zero=>exact absurd HA.out (by simp [spec_reader_pick.j0])
  | succ kj2 =>
   have H:=HA.out;clear HA;simp only [spec_reader_pick.j0] at H;by_cases c7 : x24_2 = true
   ·subst c7
    have H1 : (some (0,(wrap64 (s0_1 + 1)))) = some (r1,r2):=by rw [if_pos rfl] at H;exact H
    clear H;have H:=H1;clear H1;simp only [Option.some.injEq,Prod.mk.injEq] at H;obtain ⟨rfl,rfl⟩:=H;go_wp2
    repeat (go_quiet (fail);try go_wp2)
    go_ret;exact ⟨by first | rfl | (simp [errW_none,errW_some] <;> rfl) | (simp [*,errW_none,errW_some] <;> rfl),by repeat (first | (with_reducible first | exact HI0.out | apply IsS148.alloc | apply IsS148.drewN | apply IsS148.drew | apply IsS148.set_1) | exact HI0.out),by repeat (first | (with_reducible first | exact HB.out | apply below_alloc | apply pw_below_drewN | apply below_drew1 | refine below_set ?_ (IsS148.ge HI0.out)) | exact HB.out),hk_⟩
   ·replace c7:=Bool.eq_false_iff.mpr c7
    subst c7
    have H1 : (if (wrap64 ((wrap64 (s0_1 + 1)) - 1)) < (s0_0.length : Int) then (if 0 ≤ (wrap64 ((wrap64 (s0_1 + 1)) - 1)) then (if a1 = 0 then (none) else (some (Int.tmod (wrap64 (rd s0_0 (wrap64 ((wrap64 (s0_1 + 1)) - 1)))) a1,(wrap64 (s0_1 + 1))))) else (none)) else (if (s0_0.length : Int) = 0 then (none) else (if 0 ≤ (Int.tmod (wrap64 ((wrap64 (s0_1 + 1)) - 1)) (s0_0.length : Int)) then (if (Int.tmod (wrap64 ((wrap64 (s0_1 + 1)) - 1)) (s0_0.length : Int)) < (s0_0.length : Int) then (if 0 ≤ (Int.tmod (wrap64 ((wrap64 ((wrap64 ((wrap64 (s0_1 + 1)) - 1)) * 7)) + 3)) (s0_0.length : Int)) then (if (Int.tmod (wrap64 ((wrap64 ((wrap64 ((wrap64 (s0_1 + 1)) - 1)) * 7)) + 3)) (s0_0.length : Int)) < (s0_0.length : Int) then (if a1 = 0 then (none) else (some (Int.tmod (Go.bits .xor .i64 (wrap64 ((wrap64 ((wrap64 ((wrap64 ((wrap64 (rd s0_0 (Int.tmod (wrap64 ((wrap64 (s0_1 + 1)) - 1)) (s0_0.length : Int)))) * 131)) + (wrap64 ((wrap64 (rd s0_0 (Int.tmod (wrap64 ((wrap64 ((wrap64 ((wrap64 (s0_1 + 1)) - 1)) * 7)) + 3)) (s0_0.length : Int)))) * 1117)))) + (wrap64 ((wrap64 ((wrap64 (s0_1 + 1)) - 1)) * 29)))) + (wrap64 ((wrap64 (Int.tdiv (wrap64 ((wrap64 (s0_1 + 1)) - 1)) (s0_0.length : Int))) * 53)))) (wrap64 (Int.tdiv (wrap64 ((wrap64 ((wrap64 ((wrap64 ((wrap64 (rd s0_0 (Int.tmod (wrap64 ((wrap64 (s0_1 + 1)) - 1)) (s0_0.length : Int)))) * 131)) + (wrap64 ((wrap64 (rd s0_0 (Int.tmod (wrap64 ((wrap64 ((wrap64 ((wrap64 (s0_1 + 1)) - 1)) * 7)) + 3)) (s0_0.length : Int)))) * 1117)))) + (wrap64 ((wrap64 ((wrap64 (s0_1 + 1)) - 1)) * 29)))) + (wrap64 ((wrap64 (Int.tdiv (wrap64 ((wrap64 (s0_1 + 1)) - 1)) (s0_0.length : Int))) * 53)))) 64))) a1,(wrap64 (s0_1 + 1))))) else (none)) else (none)) else (none)) else (none)))) = some (r1,r2):=by rw [if_neg (show ¬ (false = true) by decide)] at H;exact H
    clear H;have H:=H1;clear H1;by_cases c8 : (wrap64 ((wrap64 (s0_1 + 1)) - 1)) < (s0_0.length : Int)
    ·rw [if_pos c8] at H
     have c8b0 : decide ((wrap64 ((wrap64 (s0_1 + 1)) - 1)) < (s0_0.length : Int)) = true:=decide_eq_true c8;clear c8;obtain ⟨ji9,hji9⟩ : ∃ j_ : Int,(wrap64 ((wrap64 (s0_1 + 1)) - 1)) = j_:=⟨_,rfl⟩
     replace H : (if 0 ≤ (ji9) then (if a1 = 0 then (none) else (some (Int.tmod (wrap64 (rd s0_0 (ji9))) a1,(wrap64 (s0_1 + 1))))) else (none)) = some (r1,r2):=by first | (rw [hji9] at H;exact H) | (simp only [hji9] at H ⊢;exact H)
     (try rw [hji9] at c8b0);have hji9w : (IntKind.i64.wrap ((wrap64 (s0_1 + 1)) - 1)) = ji9:=(i64_w _).trans hji9;by_cases c10 : 0 ≤ (ji9)
     ·rw [if_pos c10] at H
      have c10b0 : decide (0 ≤ (ji9)) = true:=decide_eq_true c10;clear c10;by_cases c11 : a1 = 0
      ·rw [if_pos c11] at H
       exact absurd H (by simp)
      ·rw [if_neg c11] at H
       have c11b0 : (a1 == 0) = false:=beq_eq_false_iff_ne.mpr c11;have c11b1 : (a1 != 0) = true:=bne_iff_ne.mpr c11;simp only [Option.some.injEq,Prod.mk.injEq] at H;obtain ⟨rfl,rfl⟩:=H;obtain ⟨ASz12_0,cSz12_0,HGz12,hgz12,HSz12_0⟩:=HI0.out;have hcz12_0:=cellS148_0 HGz12;have hcz12_1:=cellS148_1 HGz12;have hfz12_1:=blk_frozen HGz12 1;clear HGz12 hgz12;have p1 : 0 ≤ ((ji9) : Int):=od_;have q1 : (ji9) < (s0_0.length : Int):=od_;obtain ⟨ad1,e1,hx1_0⟩:=Kd.at_int HSz12_0 (ji9) p1 q1;cases e1;replace hx1_0:=pw_cell_below HB.out hx1_0;replace p1:=eq_true p1;replace q1:=eq_true q1;go_wp2
       repeat (go_quiet (fail);try go_wp2)
       go_ret;exact ⟨by first | rfl | (simp [errW_none,errW_some] <;> rfl) | (simp only [← hji9];first | rfl | (simp [errW_none,errW_some] <;> rfl)) | (simp [*,errW_none,errW_some] <;> rfl),by repeat (first | (with_reducible first | exact HI0.out | apply IsS148.alloc | apply IsS148.drewN | apply IsS148.drew | apply IsS148.set_1) | exact HI0.out),by repeat (first | (with_reducible first | exact HB.out | apply below_alloc | apply pw_below_drewN | apply below_drew1 | refine below_set ?_ (IsS148.ge HI0.out)) | exact HB.out),hk_⟩
     ·rw [if_neg c10] at H
      exact absurd H (by simp)
    ·rw [if_neg c8] at H
     have c8b0 : decide ((wrap64 ((wrap64 (s0_1 + 1)) - 1)) < (s0_0.length : Int)) = false:=decide_eq_false c8;clear c8;by_cases c13 : (s0_0.length : Int) = 0
     ·rw [if_pos c13] at H
      exact absurd H (by simp)
     ·rw [if_neg c13] at H
      have c13b0 : ((s0_0.length : Int) == 0) = false:=beq_eq_false_iff_ne.mpr c13;have c13b1 : ((s0_0.length : Int) != 0) = true:=bne_iff_ne.mpr c13;have c13b2 : ¬ (s0_0 = []):=fun h_=>c13 (by rw [h_];rfl);obtain ⟨ji14,hji14⟩ : ∃ j_ : Int,(Int.tmod (wrap64 ((wrap64 (s0_1 + 1)) - 1)) (s0_0.length : Int)) = j_:=⟨_,rfl⟩
      replace H : (if 0 ≤ (ji14) then (if (ji14) < (s0_0.length : Int) then (if 0 ≤ (Int.tmod (wrap64 ((wrap64 ((wrap64 ((wrap64 (s0_1 + 1)) - 1)) * 7)) + 3)) (s0_0.length : Int)) then (if (Int.tmod (wrap64 ((wrap64 ((wrap64 ((wrap64 (s0_1 + 1)) - 1)) * 7)) + 3)) (s0_0.length : Int)) < (s0_0.length : Int) then (if a1 = 0 then (none) else (some (Int.tmod (Go.bits .xor .i64 (wrap64 ((wrap64 ((wrap64 ((wrap64 ((wrap64 (rd s0_0 (ji14))) * 131)) + (wrap64 ((wrap64 (rd s0_0 (Int.tmod (wrap64 ((wrap64 ((wrap64 ((wrap64 (s0_1 + 1)) - 1)) * 7)) + 3)) (s0_0.length : Int)))) * 1117)))) + (wrap64 ((wrap64 ((wrap64 (s0_1 + 1)) - 1)) * 29)))) + (wrap64 ((wrap64 (Int.tdiv (wrap64 ((wrap64 (s0_1 + 1)) - 1)) (s0_0.length : Int))) * 53)))) (wrap64 (Int.tdiv (wrap64 ((wrap64 ((wrap64 ((wrap64 ((wrap64 (rd s0_0 (ji14))) * 131)) + (wrap64 ((wrap64 (rd s0_0 (Int.tmod (wrap64 ((wrap64 ((wrap64 ((wrap64 (s0_1 + 1)) - 1)) * 7)) + 3)) (s0_0.length : Int)))) * 1117)))) + (wrap64 ((wrap64 ((wrap64 (s0_1 + 1)) - 1)) * 29)))) + (wrap64 ((wrap64 (Int.tdiv (wrap64 ((wrap64 (s0_1 + 1)) - 1)) (s0_0.length : Int))) * 53)))) 64))) a1,(wrap64 (s0_1 + 1))))) else (none)) else (none)) else (none)) else (none)) = some (r1,r2):=by first | (rw [hji14] at H;exact H) | (simp only [hji14] at H ⊢;exact H)
      by_cases c15 : 0 ≤ (ji14)
      ·rw [if_pos c15] at H
       have c15b0 : decide (0 ≤ (ji14)) = true:=decide_eq_true c15;clear c15;by_cases c16 : (ji14) < (s0_0.length : Int)
       ·rw [if_pos c16] at H
        have c16b0 : decide ((ji14) < (s0_0.length : Int)) = true:=decide_eq_true c16;clear c16;obtain ⟨ji17,hji17⟩ : ∃ j_ : Int,(Int.tmod (wrap64 ((wrap64 ((wrap64 ((wrap64 (s0_1 + 1)) - 1)) * 7)) + 3)) (s0_0.length : Int)) = j_:=⟨_,rfl⟩
        replace H : (if 0 ≤ (ji17) then (if (ji17) < (s0_0.length : Int) then (if a1 = 0 then (none) else (some (Int.tmod (Go.bits .xor .i64 (wrap64 ((wrap64 ((wrap64 ((wrap64 ((wrap64 (rd s0_0 (ji14))) * 131)) + (wrap64 ((wrap64 (rd s0_0 (ji17))) * 1117)))) + (wrap64 ((wrap64 ((wrap64 (s0_1 + 1)) - 1)) * 29)))) + (wrap64 ((wrap64 (Int.tdiv (wrap64 ((wrap64 (s0_1 + 1)) - 1)) (s0_0.length : Int))) * 53)))) (wrap64 (Int.tdiv (wrap64 ((wrap64 ((wrap64 ((wrap64 ((wrap64 (rd s0_0 (ji14))) * 131)) + (wrap64 ((wrap64 (rd s0_0 (ji17))) * 1117)))) + (wrap64 ((wrap64 ((wrap64 (s0_1 + 1)) - 1)) * 29)))) + (wrap64 ((wrap64 (Int.tdiv (wrap64 ((wrap64 (s0_1 + 1)) - 1)) (s0_0.length : Int))) * 53)))) 64))) a1,(wrap64 (s0_1 + 1))))) else (none)) else (none)) = some (r1,r2):=by first | (rw [hji17] at H;exact H) | (simp only [hji17] at H ⊢;exact H)
        by_cases c18 : 0 ≤ (ji17)
        ·rw [if_pos c18] at H
         have c18b0 : decide (0 ≤ (ji17)) = true:=decide_eq_true c18;clear c18;by_cases c19 : (ji17) < (s0_0.length : Int)
         ·rw [if_pos c19] at H
          have c19b0 : decide ((ji17) < (s0_0.length : Int)) = true:=decide_eq_true c19;clear c19;by_cases c20 : a1 = 0
          ·rw [if_pos c20] at H
           exact absurd H (by simp)
          ·rw [if_neg c20] at H
           have c20b0 : (a1 == 0) = false:=beq_eq_false_iff_ne.mpr c20;have c20b1 : (a1 != 0) = true:=bne_iff_ne.mpr c20;simp only [Option.some.injEq,Prod.mk.injEq] at H;obtain ⟨rfl,rfl⟩:=H;obtain ⟨ASz21_0,cSz21_0,HGz21,hgz21,HSz21_0⟩:=HI0.out;have hcz21_0:=cellS148_0 HGz21;have hcz21_1:=cellS148_1 HGz21;have hfz21_1:=blk_frozen HGz21 1;clear HGz21 hgz21;have p2 : 0 ≤ ((ji14) : Int):=od_;have q2 : (ji14) < (s0_0.length : Int):=od_;obtain ⟨ad2,e2,hx2_0⟩:=Kd.at_int HSz21_0 (ji14) p2 q2;cases e2;replace hx2_0:=pw_cell_below HB.out hx2_0;replace p2:=eq_true p2;replace q2:=eq_true q2;have p3 : 0 ≤ ((ji17) : Int):=od_;have q3 : (ji17) < (s0_0.length : Int):=od_;obtain ⟨ad3,e3,hx3_0⟩:=Kd.at_int HSz21_0 (ji17) p3 q3;obtain rfl : ad2 = ad3:=(by injection e3);replace hx3_0:=pw_cell_below HB.out hx3_0;replace p3:=eq_true p3;replace q3:=eq_true q3;go_wp2
           repeat (go_quiet (fail);try go_wp2)
           go_ret;exact ⟨by first | rfl | (simp [errW_none,errW_some] <;> rfl) | (simp only [← hji14,← hji17];first | rfl | (simp [errW_none,errW_some] <;> rfl)) | (simp [*,errW_none,errW_some] <;> rfl),by repeat (first | (with_reducible first | exact HI0.out | apply IsS148.alloc | apply IsS148.drewN | apply IsS148.drew | apply IsS148.set_1) | exact HI0.out),by repeat (first | (with_reducible first | exact HB.out | apply below_alloc | apply pw_below_drewN | apply below_drew1 | refine below_set ?_ (IsS148.ge HI0.out)) | exact HB.out),hk_⟩
         ·rw [if_neg c19] at H
          exact absurd H (by simp)
        ·rw [if_neg c18] at H
         exact absurd H (by simp)
       ·rw [if_neg c16] at H
        exact absurd H (by simp)
      ·rw [if_neg c15] at H
       exact absurd H (by simp)
theorem spec_pick_ev (b : List Int) (p n : Int) (hb : byL b) (h0 : 0 ≤ p) (hp : p ≤ 1099511627776) : ∃ x,Ev (fun k=>spec_reader_pick.f k b p n) (x,p + 1) ∧ 0 ≤ x ∧ (1 ≤ n → x < n) ∧ (n < 1 → x = 0):=by
 have e1 : wrap64 (p + 1) = p + 1:=wrap_in (by omega) (by omega)
 have e2 : wrap64 (p + 1 - 1) = p:=by rw [show p + 1 - 1 = p by omega];exact wrap_in (by omega) (by omega)
 unfold spec_reader_pick.f
 rw [e1]
 by_cases hn : n < 1
 ·refine ⟨0,Ev.pos hn (Ev.succ ?_),Int.le_refl _,fun h=>by omega,fun _=>rfl⟩
  simp only [spec_reader_pick.j0]
  exact Ev.pos trivial (Ev.const rfl)
 by_cases hz : ((b.length : Int) == 0) = true
 ·refine ⟨0,Ev.neg hn (Ev.succ ?_),Int.le_refl _,fun h=>by omega,fun _=>rfl⟩
  rw [hz]
  simp only [spec_reader_pick.j0]
  exact Ev.pos trivial (Ev.const rfl)
 have hz2 : ((b.length : Int) == 0) = false:=by simpa using hz
 have hz3 : 1 ≤ (b.length : Int):=by
  have:=beq_eq_false_iff_ne.1 hz2
  omega
 have hl:=hb.1
 have hn1 : 1 ≤ n:=by omega
 by_cases hlt : p < (b.length : Int)
 ·have hr:=byL_rd hb p
  have hm:=tmod_in hr.1 hn1
  refine ⟨Int.tmod (rd b p) n,Ev.neg hn (Ev.succ ?_),hm.1,fun _=>hm.2,fun h=>by omega⟩
  rw [hz2]
  simp only [spec_reader_pick.j0,e2]
  refine Ev.neg (by simp) (Ev.pos hlt (Ev.pos h0 (Ev.neg (by omega) (Ev.const ?_))))
  rw [wrap_in (i:=rd b p) (by omega) (by omega)]
 ·have m1:=tmod_in h0 hz3
  have e7 : wrap64 (wrap64 (p * 7) + 3) = p * 7 + 3:=by rw [wrap_in (i:=p * 7) (by omega) (by omega),wrap_in (by omega) (by omega)]
  have m2:=tmod_in (x:=p * 7 + 3) (by omega) hz3
  have r1:=byL_rd hb (Int.tmod p (b.length : Int))
  have r2:=byL_rd hb (Int.tmod (p * 7 + 3) (b.length : Int))
  have dq : 0 ≤ Int.tdiv p (b.length : Int) ∧ Int.tdiv p (b.length : Int) ≤ p:=by
   rw [Int.tdiv_eq_ediv_of_nonneg h0]
   exact ⟨Int.ediv_nonneg h0 (by omega),Int.ediv_le_self _ h0⟩
  generalize hx1 : rd b (Int.tmod p (b.length : Int)) = x1 at r1
  generalize hx2 : rd b (Int.tmod (p * 7 + 3) (b.length : Int)) = x2 at r2
  generalize hx3 : Int.tdiv p (b.length : Int) = x3 at dq
  have es : wrap64 (wrap64 (wrap64 (wrap64 (wrap64 x1 * 131) + wrap64 (wrap64 x2 * 1117)) + wrap64 (p * 29)) + wrap64 (wrap64 x3 * 53)) = x1 * 131 + x2 * 1117 + p * 29 + x3 * 53:=by
   rw [wrap_in (i:=x1) (by omega) (by omega),wrap_in (i:=x2) (by omega) (by omega),wrap_in (i:=x3) (by omega) (by omega),wrap_in (i:=x1 * 131) (by omega) (by omega),wrap_in (i:=x2 * 1117) (by omega) (by omega),wrap_in (i:=x3 * 53) (by omega) (by omega),wrap_in (i:=p * 29) (by omega) (by omega),wrap_in (i:=x1 * 131 + x2 * 1117) (by omega) (by omega),wrap_in (i:=x1 * 131 + x2 * 1117 + p * 29) (by omega) (by omega),wrap_in (by omega) (by omega)]
  obtain ⟨s,hs⟩ : ∃ s,s = x1 * 131 + x2 * 1117 + p * 29 + x3 * 53:=⟨_,rfl⟩
  have s0 : 0 ≤ s ∧ s ≤ 999999999999999:=by omega
  have d0 : 0 ≤ Int.tdiv s 64 ∧ Int.tdiv s 64 ≤ s:=by
   rw [Int.tdiv_eq_ediv_of_nonneg s0.1]
   exact ⟨Int.ediv_nonneg s0.1 (by omega),Int.ediv_le_self _ s0.1⟩
  have hxr:=xor_nonneg s (Int.tdiv s 64) s0.1 (by omega) d0.1 (by omega)
  have hm:=tmod_in hxr hn1
  refine ⟨Int.tmod (Go.bits .xor .i64 s (Int.tdiv s 64)) n,Ev.neg hn (Ev.succ ?_),hm.1,fun _=>hm.2,fun h=>by omega⟩
  rw [hz2]
  simp only [spec_reader_pick.j0,e2,e7,hx1,hx2,hx3,es,← hs]
  refine Ev.neg (by simp) (Ev.neg hlt (Ev.neg (by omega) (Ev.pos m1.1 (Ev.pos m1.2 (Ev.pos m2.1 (Ev.pos m2.2 (Ev.neg (by omega) (Ev.const ?_))))))))
  rw [wrap_in (i:=Int.tdiv s 64) (by omega) (by omega)]
end Go.Proofs.Ytacgehaipacehaa.P
namespace Go.Proofs.Ytacgehaipacehaa.P
open Go.RowKit Go.Proofs.YtacgehaipacehaaW.PrintWords Go.Proofs.YtacgehaipacehaaW.PrintLast Go.Proofs.YtacgehaipacehaaW.PrintMore
theorem is0_ {w0 W : World} {g : Nat} {f0 : List Int} {f1 : Int} (h : IsS148 w0 W g f0 f1 := by repeat (first | (with_reducible first | exact HI0.out | apply IsS148.alloc | apply IsS148.drewN | apply IsS148.drew | apply IsS148.set_1 | refine IsS148.far ?_ (Aside0.out (by assumption)) _) | exact HI0.out)) : IsS148 w0 W g f0 f1 := h
theorem hbi0_ {n : Nat} {w w' : World} (h : Below n w w' := by repeat (first | (with_reducible first | exact HB.out | apply below_alloc | apply pw_below_drewN | apply below_drew1 | refine below_set ?_ (IsS148.ge HI0.out) | refine below_set ?_ (Aside0.out (by assumption))) | exact HB.out)) : Below n w w' := h
theorem is5_ {w0 W : World} {g : Nat} {f0 : List Int} {f1 : Int} (h : IsS148 w0 W g f0 f1 := by repeat (first | (with_reducible first | exact HI5.out | apply IsS148.alloc | apply IsS148.drewN | apply IsS148.drew | apply IsS148.set_1 | refine IsS148.far ?_ (Aside0.out (by assumption)) _) | exact HI5.out)) : IsS148 w0 W g f0 f1 := h
theorem hbi5_ {n : Nat} {w w' : World} (h : Below n w w' := by repeat (first | (with_reducible first | exact HB.out | apply below_alloc | apply pw_below_drewN | apply below_drew1 | refine below_set ?_ (IsS148.ge HI5.out) | refine below_set ?_ (Aside0.out (by assumption))) | exact HB.out)) : Below n w w' := h
end Go.Proofs.Ytacgehaipacehaa.P
