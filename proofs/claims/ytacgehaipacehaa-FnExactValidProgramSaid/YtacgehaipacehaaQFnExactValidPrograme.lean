/- Texts under the proof of FnExactValidProgram: helper words, the functions' contracts and the plain laws. No condition. -/
import Derived.Test.YtacgehaipacehaaQFnExactValidPrograma
import Derived.Test.YtacgehaipacehaaQFnExactValidProgramd
namespace Go.Proofs.Ytacgehaipacehaa.P
open Go.RowKit Go.Proofs.YtacgehaipacehaaW.PrintWords Go.Proofs.YtacgehaipacehaaW.PrintLast Go.Proofs.YtacgehaipacehaaW.PrintMore
attribute [local go_sem] max2_int min2_int max_two min_two max_three min_three max_four min_four
set_option linter.unusedVariables false
set_option linter.unusedSimpArgs false
mutual
def impl_ValidProgram.j0 : Nat → List (S75) → Bool → List (S125) → Option (Bool)
 | 0,_,_,_=>none
 | k + 1,x1,x15,x2000=>if x15 = true then (some false) else (impl_ValidProgram.l0 k x1 x1 (x1.length : Int) 0 x2000 (-1) 7 0 0)
def impl_ValidProgram.l0 : Nat → List (S75) → List (S75) → Int → Int → List (S125) → Int → Int → Int → Int → Option (Bool)
 | 0,_,_,_,_,_,_,_,_,_=>none
 | k + 1,x1,x17,x18,x19,x2000,x4000,x4001,x4002,x4003=>if x19 < x18 then (if 0 ≤ x19 then (if x19 < (x17.length : Int) then ((impl_Line_argued.f k ((rd_T75 x17 x19).f0) ((rd_T75 x17 x19).f1) ((rd_T75 x17 x19).f2) ((rd_T75 x17 x19).f3) x2000).bind fun t9=>(if t9 = true then ((impl_within.f ((rd_T75 x17 x19).f0) 0 5).bind fun t10=>(if t10 = true then ((impl_Line_opens.f x4000 x4001 x4002 x4003).bind fun t11=>(if t11 = true then (if ((rd_T75 x17 x19).f0) = (wrap64 (x4000 + 1)) then ((impl_Line_opens.f x4000 x4001 x4002 x4003).bind fun t12=>(if t12 = true then (impl_ValidProgram.l0 k x1 x17 x18 (wrap64 (x19 + 1)) x2000 ((rd_T75 x17 x19).f0) ((rd_T75 x17 x19).f1) ((rd_T75 x17 x19).f2) ((rd_T75 x17 x19).f3)) else (if ((rd_T75 x17 x19).f0) > x4000 then (some false) else (impl_ValidProgram.l0 k x1 x17 x18 (wrap64 (x19 + 1)) x2000 ((rd_T75 x17 x19).f0) ((rd_T75 x17 x19).f1) ((rd_T75 x17 x19).f2) ((rd_T75 x17 x19).f3))))) else (some false)) else ((impl_Line_opens.f x4000 x4001 x4002 x4003).bind fun t13=>(if t13 = true then (impl_ValidProgram.l0 k x1 x17 x18 (wrap64 (x19 + 1)) x2000 ((rd_T75 x17 x19).f0) ((rd_T75 x17 x19).f1) ((rd_T75 x17 x19).f2) ((rd_T75 x17 x19).f3)) else (if ((rd_T75 x17 x19).f0) > x4000 then (some false) else (impl_ValidProgram.l0 k x1 x17 x18 (wrap64 (x19 + 1)) x2000 ((rd_T75 x17 x19).f0) ((rd_T75 x17 x19).f1) ((rd_T75 x17 x19).f2) ((rd_T75 x17 x19).f3))))))) else (some false))) else (some false))) else (none)) else (none)) else (if (x1.length : Int) = 0 then ((impl_blockOk.f k x1 0 (x1.length : Int) false).bind fun t4=>(some t4)) else ((impl_Line_opens.f x4000 x4001 x4002 x4003).bind fun t5=>(if t5 = true then (some false) else ((impl_blockOk.f k x1 0 (x1.length : Int) false).bind fun t6=>(some t6)))))
end
def impl_ValidProgram.f (k : Nat) (l0_0 : List (S125)) (l1 : List (S75)) : Option (Bool):=(impl_ValidTree.f l0_0).bind fun t2=>(if t2 = true then (impl_ValidProgram.j0 k l1 (decide ((l1.length : Int) > 24)) l0_0) else (impl_ValidProgram.j0 k l1 true l0_0))
theorem impl_ValidProgram.mono_l : ∀ k,(∀ y0 y1 y2,LeO (impl_ValidProgram.j0 k y0 y1 y2) (impl_ValidProgram.j0 (k + 1) y0 y1 y2)) ∧ (∀ y0 y1 y2 y3 y4 y5 y6 y7 y8,LeO (impl_ValidProgram.l0 k y0 y1 y2 y3 y4 y5 y6 y7 y8) (impl_ValidProgram.l0 (k + 1) y0 y1 y2 y3 y4 y5 y6 y7 y8))
 | 0=>⟨fun _ _ _ r h=>by simp [impl_ValidProgram.j0] at h,fun _ _ _ _ _ _ _ _ _ r h=>by simp [impl_ValidProgram.l0] at h⟩
 | k + 1=>by
  obtain ⟨ih0,ih1⟩:=impl_ValidProgram.mono_l k
  refine ⟨?_,?_⟩
  ·intro y0 y1 y2
   unfold impl_ValidProgram.j0
   repeat' first
   | (with_reducible exact ih0 _ _ _)
   | (with_reducible exact ih1 _ _ _ _ _ _ _ _ _)
   | (with_reducible exact impl_Line_argued.mono _ _ _ _ _ _)
   | (with_reducible exact impl_blockOk.mono _ _ _ _ _)
   | (with_reducible exact LeO.refl _)
   | (with_reducible exact LeO.none _)
   | (with_reducible refine LeO.ite ?_ ?_)
   | (with_reducible refine LeO.bind ?_ (fun _=>?_))
   | exact ih0 _ _ _
   | exact ih1 _ _ _ _ _ _ _ _ _
   | exact impl_Line_argued.mono _ _ _ _ _ _
   | exact impl_blockOk.mono _ _ _ _ _
   | exact LeO.none _
   | refine LeO.ite ?_ ?_
   | refine LeO.bind ?_ (fun _=>?_)
  ·intro y0 y1 y2 y3 y4 y5 y6 y7 y8
   unfold impl_ValidProgram.l0
   repeat' first
   | (with_reducible exact ih0 _ _ _)
   | (with_reducible exact ih1 _ _ _ _ _ _ _ _ _)
   | (with_reducible exact impl_Line_argued.mono _ _ _ _ _ _)
   | (with_reducible exact impl_blockOk.mono _ _ _ _ _)
   | (with_reducible exact LeO.refl _)
   | (with_reducible exact LeO.none _)
   | (with_reducible refine LeO.ite ?_ ?_)
   | (with_reducible refine LeO.bind ?_ (fun _=>?_))
   | exact ih0 _ _ _
   | exact ih1 _ _ _ _ _ _ _ _ _
   | exact impl_Line_argued.mono _ _ _ _ _ _
   | exact impl_blockOk.mono _ _ _ _ _
   | exact LeO.none _
   | refine LeO.ite ?_ ?_
   | refine LeO.bind ?_ (fun _=>?_)
theorem impl_ValidProgram.mono : ∀ a0 a1 k,LeO (impl_ValidProgram.f k a0 a1) (impl_ValidProgram.f (k + 1) a0 a1):=by
 intro a0 a1 k
 obtain ⟨ih0,ih1⟩:=impl_ValidProgram.mono_l k
 unfold impl_ValidProgram.f
 repeat' first
   | (with_reducible exact ih0 _ _ _)
   | (with_reducible exact ih1 _ _ _ _ _ _ _ _ _)
   | (with_reducible exact impl_Line_argued.mono _ _ _ _ _ _)
   | (with_reducible exact impl_blockOk.mono _ _ _ _ _)
   | (with_reducible exact LeO.refl _)
   | (with_reducible exact LeO.none _)
   | (with_reducible refine LeO.ite ?_ ?_)
   | (with_reducible refine LeO.bind ?_ (fun _=>?_))
   | exact ih0 _ _ _
   | exact ih1 _ _ _ _ _ _ _ _ _
   | exact impl_Line_argued.mono _ _ _ _ _ _
   | exact impl_blockOk.mono _ _ _ _ _
   | exact LeO.none _
   | refine LeO.ite ?_ ?_
   | refine LeO.bind ?_ (fun _=>?_)
set_option maxHeartbeats 8000000 in
set_option maxRecDepth 100000 in
theorem impl_ValidProgram.calls (k : Nat) (A0_0 : Option Addr) (c0_0 : Nat) (l0_0 : List (S125)) (A1 : Option Addr) (c1 : Nat) (l1 : List (S75)) (r : Bool) (w : World) (hr0_0 : Kd.C k125 w A0_0 l0_0.length l0_0) (hc0_0 : l0_0.length ≤ c0_0) (hr1 : Kd.C k75 w A1 l1.length l1) (hc1 : l1.length ≤ c1) (h : impl_ValidProgram.f k l0_0 l1 = some r) :
  Calls Try.prog 45 #[.agg #[.slice A0_0 l0_0.length c0_0],.slice A1 l1.length c1] w fun e w'=>e = .returned (.bool r) ∧ Below w.heap.size w w':=by
 have hu25:=Try.underlying25
 have hu75:=Try.underlying75
 have HR0_0:=a0_ hr0_0
 have HC0_0:=a0_ hc0_0
 clear hr0_0 hc0_0
 have HR1:=a0_ hr1
 have HC1:=a0_ hc1
 clear hr1 hc1
 have HB:=a0_ (Below.refl w.heap.size w)
 have H : ((impl_ValidTree.f l0_0).bind fun t2=>(if t2 = true then (impl_ValidProgram.j0 k l1 (decide ((l1.length : Int) > 24)) l0_0) else (impl_ValidProgram.j0 k l1 true l0_0))) = some r:=h
 clear h
 have HC3:=a0_ H
 clear H
 go_enter Try.func45,Try.ntmps45
 go_upto_region 1 with (first | ((with_reducible refine gate_dst (N:=2) rfl ?_);(try (refine gate_guard (by rfl) ?_;dsimp only));refine box_event ?hg (N:=2) ?hd (cs:=#[.slice A0_0 l0_0.length c0_0]) (t:=25) ?hr ?_;(case hd=>rfl);(case hg=>rfl);(case hr=>first | (go_simp;done) | (go_simp;rfl));intro gb1 hg w4 hbox hb;have BK1:=a0_ (hbox);have GW1:=a0_ ((by rw [hg];exact (below_size hbw_) : w.heap.size ≤ gb1));have GE1:=a0_ ((by rw [hg];exact (below_size hbw_) : w.heap.size ≤ gb1));replace HB:=a0_ (below_step hbw_ hb);clear hb hbox hg))
 (try simp only [Act.put,s1_,s2_,s3_])
 go_cut [15] (fun v15 wc=>∃ (kq : Nat) (x15_2 : Bool),v15 = .bool x15_2 ∧ Aside0 (impl_ValidProgram.j0 kq l1 x15_2 l0_0 = some r) ∧ Aside0 (kq ≤ k) ∧ Aside0 (wc.heap[gb1]? = some (.cells #[(.slice A0_0 l0_0.length c0_0)] 25 (0,0))) ∧ Aside0 (Below w.heap.size w wc))
 case first =>
  have H:=HC3.out
  clear HC3
  replace H:=Option.bind_eq_some_iff.mp H
  obtain ⟨t2,A50,H⟩:=H
  try dsimp only at H
  have A5:=a0_ A50
  clear A50
  by_cases c6 : t2 = true
  ·subst c6
   have H1 : (impl_ValidProgram.j0 k l1 (decide ((l1.length : Int) > 24)) l0_0) = some r:=by rw [if_pos rfl] at H;exact H
   clear H
   have H:=H1
   clear H1
   have H':=a0_ H
   clear H
   have hcz7_0 : w4.cell? ⟨gb1,0,none⟩ = some (.slice A0_0 l0_0.length c0_0):=(blk_cell BK1.out 0).trans rfl
   have hfz7_0:=blk_frozen BK1.out 0
   go_wp2_with (first | ((with_reducible refine gate_callee (f:=54) rfl ?_);refine goesL_ (some 9) rfl rfl Try.func54 (by kernel_rfl) rfl #[.agg #[.slice A0_0 l0_0.length c0_0]] rfl lm_ ?_;(with_reducible refine (impl_ValidTree.calls _ _ l0_0 true _ ?side1 ?side2 A5.out).mono ?_);(case side1=>exact cc_ (Kd.C_below HR0_0.out HB.out));(case side2=>exact HC0_0.out);rintro e w8 ⟨rfl,hb⟩;refine ⟨_,rfl,?_⟩;replace BK1:=kb_ BK1 hb;replace HB:=a0_ (below_step hbw_ hb);(try clear hb);(try clear hb2);(try clear hk);(try clear hi)))
   go_meet
   case rel=>exact ⟨_,(decide ((l1.length : Int) > 24)),(by first | rfl | (simp;done) | (simp [*];done)),H',⟨by first | omega | exact Nat.le_refl _⟩,⟨by (with_reducible repeat (first | refine blk_drewN ?_ _ | refine blk_drew ?_ | refine blk_alloc ?_ _));exact BK1.out⟩,⟨hbw_⟩⟩
  ·replace c6:=Bool.eq_false_iff.mpr c6
   subst c6
   have H1 : (impl_ValidProgram.j0 k l1 true l0_0) = some r:=by rw [if_neg (show ¬ (false = true) by decide)] at H;exact H
   clear H
   have H:=H1
   clear H1
   have H':=a0_ H
   clear H
   have hcz9_0 : w4.cell? ⟨gb1,0,none⟩ = some (.slice A0_0 l0_0.length c0_0):=(blk_cell BK1.out 0).trans rfl
   have hfz9_0:=blk_frozen BK1.out 0
   go_wp2_with (first | ((with_reducible refine gate_callee (f:=54) rfl ?_);refine goesL_ (some 9) rfl rfl Try.func54 (by kernel_rfl) rfl #[.agg #[.slice A0_0 l0_0.length c0_0]] rfl lm_ ?_;(with_reducible refine (impl_ValidTree.calls _ _ l0_0 false _ ?side1 ?side2 A5.out).mono ?_);(case side1=>exact cc_ (Kd.C_below HR0_0.out HB.out));(case side2=>exact HC0_0.out);rintro e w10 ⟨rfl,hb⟩;refine ⟨_,rfl,?_⟩;replace BK1:=kb_ BK1 hb;replace HB:=a0_ (below_step hbw_ hb);(try clear hb);(try clear hb2);(try clear hk);(try clear hi)))
   go_meet
   case rel=>exact ⟨_,(true),(by first | rfl | (simp;done) | (simp [*];done)),H',⟨by first | omega | exact Nat.le_refl _⟩,⟨by (with_reducible repeat (first | refine blk_drewN ?_ _ | refine blk_drew ?_ | refine blk_alloc ?_ _));exact BK1.out⟩,⟨hbw_⟩⟩
 case rest =>
  clear HC3
  try clear c1
  try clear p2
  try clear c4
  try clear c5
  try clear c6
  try clear hcz7_0
  try clear hcz9_0
  try clear hfz7_0
  try clear hfz9_0
  obtain ⟨kq,x15_2,rfl,HA,HJ2,BK1,HB⟩:=hcut
  cases kq with
  | zero=>exact absurd HA.out (by simp [impl_ValidProgram.j0])
  | succ kj2 =>
   have H:=HA.out
   clear HA
   simp only [impl_ValidProgram.j0] at H
   by_cases c11 : x15_2 = true
   ·subst c11
    have H1 : (some false) = some r:=by rw [if_pos rfl] at H;exact H
    clear H
    have H:=H1
    clear H1
    obtain rfl:=Option.some.inj H
    go_wp2
    go_ret
    exact ⟨by first | rfl | (simp [errW_none,errW_some] <;> rfl) | (simp [*,errW_none,errW_some] <;> rfl),hbw_⟩
   ·replace c11:=Bool.eq_false_iff.mpr c11
    subst c11
    have H1 : (impl_ValidProgram.l0 kj2 l1 l1 (l1.length : Int) 0 l0_0 (-1) 7 0 0) = some r:=by rw [if_neg (show ¬ (false = true) by decide)] at H;exact H
    clear H
    have H:=H1
    clear H1
    have H':=a0_ H
    clear H
    go_wp2_with (first | ((with_reducible refine gate_dst (N:=5) rfl ?_);(try (refine gate_guard (by rfl) ?_;dsimp only));refine box_event ?hg (N:=5) ?hd (cs:=#[.int .i64 0,.int .i64 0,.int .i64 0,.int .i64 0]) (t:=75) ?hr ?_;(case hd=>rfl);(case hg=>rfl);(case hr=>first | (go_simp;done) | (go_simp;rfl));intro gb3 hg w12 hbox hb;have n0_:=kb_ BK1 hb;have n1_:=a0_ (below_step hbw_ hb);have n2_:=a0_ (hbox);have n3_:=a0_ ((by rw [hg];exact (below_size hbw_) : w.heap.size ≤ gb3));have n4_:=a0_ ((by rw [hg];exact (below_size hbw_) : w.heap.size ≤ gb3));have n5_:=a0_ ((by rw [hg];exact Nat.ne_of_lt (blk_lt (bb_ BK1.out)) : gb1 ≠ gb3));have n6_:=a0_ ((by rw [hg];exact Nat.ne_of_gt (blk_lt (bb_ BK1.out)) : gb3 ≠ gb1));clear BK1 HB;have BK1:=n0_;have HB:=n1_;have BK3:=n2_;have GW3:=n3_;have GE3:=n4_;have NB1_3:=n5_;have NB3_1:=n6_;clear n0_ n1_ n2_ n3_ n4_ n5_ n6_;clear hb hbox hg;have hnb13:=NB3_1.out;have hnc13:=NB1_3.out;have hcz14_0 : w12.cell? ⟨gb3,0,none⟩ = some (.int .i64 0):=(blk_cell BK3.out 0).trans rfl;have hcz14_1 : w12.cell? ⟨gb3,1,none⟩ = some (.int .i64 0):=(blk_cell BK3.out 1).trans rfl;have hcz14_2 : w12.cell? ⟨gb3,2,none⟩ = some (.int .i64 0):=(blk_cell BK3.out 2).trans rfl;have hcz14_3 : w12.cell? ⟨gb3,3,none⟩ = some (.int .i64 0):=(blk_cell BK3.out 3).trans rfl;have hfz14_0:=blk_frozen BK3.out 0;have hfz14_1:=blk_frozen BK3.out 1;have hfz14_2:=blk_frozen BK3.out 2;have hfz14_3:=blk_frozen BK3.out 3))
    go_loopg [19] kj2 (fun kq v19 w'=>∃ (x19_2 : Int) (x4000_2 : Int) (x4001_2 : Int) (x4002_2 : Int) (x4003_2 : Int),v19 = .int .i64 x19_2 ∧ Aside0 (impl_ValidProgram.l0 kq l1 l1 (l1.length : Int) x19_2 l0_0 x4000_2 x4001_2 x4002_2 x4003_2 = some r) ∧ Aside0 (kq ≤ kj2) ∧ Aside0 (w'.heap[gb1]? = some (.cells #[(.slice A0_0 l0_0.length c0_0)] 25 (0,0))) ∧ Aside0 (w'.heap[gb3]? = some (.cells #[.int .i64 x4000_2,.int .i64 x4001_2,.int .i64 x4002_2,.int .i64 x4003_2] 75 (0,0))) ∧ Aside0 (Below w.heap.size w w'))
    case atStart=>exact ⟨(0),((-1)),(7),(0),(0),(by first | rfl | (simp;done) | (simp [*];done)),H',⟨Nat.le_refl _⟩,⟨by (with_reducible repeat (first | refine blk_drewN ?_ _ | refine blk_drew ?_ | refine blk_alloc ?_ _));refine blk_far ?_ NB1_3.out _;(with_reducible repeat (first | refine blk_drewN ?_ _ | refine blk_drew ?_ | refine blk_alloc ?_ _));refine blk_far ?_ NB1_3.out _;(with_reducible repeat (first | refine blk_drewN ?_ _ | refine blk_drew ?_ | refine blk_alloc ?_ _));refine blk_far ?_ NB1_3.out _;(with_reducible repeat (first | refine blk_drewN ?_ _ | refine blk_drew ?_ | refine blk_alloc ?_ _));refine blk_far ?_ NB1_3.out _;(with_reducible repeat (first | refine blk_drewN ?_ _ | refine blk_drew ?_ | refine blk_alloc ?_ _));exact BK1.out⟩,⟨by (with_reducible repeat (first | refine blk_drewN ?_ _ | refine blk_drew ?_ | refine blk_alloc ?_ _));refine blk_put (cs:=#[.int .i64 (-1),.int .i64 7,.int .i64 0,.int .i64 0]) ?_ 3 _ rfl;(with_reducible repeat (first | refine blk_drewN ?_ _ | refine blk_drew ?_ | refine blk_alloc ?_ _));refine blk_put (cs:=#[.int .i64 (-1),.int .i64 7,.int .i64 0,.int .i64 0]) ?_ 2 _ rfl;(with_reducible repeat (first | refine blk_drewN ?_ _ | refine blk_drew ?_ | refine blk_alloc ?_ _));refine blk_put (cs:=#[.int .i64 (-1),.int .i64 0,.int .i64 0,.int .i64 0]) ?_ 1 _ rfl;(with_reducible repeat (first | refine blk_drewN ?_ _ | refine blk_drew ?_ | refine blk_alloc ?_ _));refine blk_put (cs:=#[.int .i64 0,.int .i64 0,.int .i64 0,.int .i64 0]) ?_ 0 _ rfl;(with_reducible repeat (first | refine blk_drewN ?_ _ | refine blk_drew ?_ | refine blk_alloc ?_ _));exact BK3.out⟩,⟨hbw_⟩⟩
    case round =>
     clear H'
     try clear c1
     try clear p2
     try clear c4
     try clear c5
     try clear c6
     try clear c11
     try clear c13
     try clear hcz14_0
     try clear hcz14_1
     try clear hcz14_2
     try clear hcz14_3
     try clear hcz7_0
     try clear hcz9_0
     try clear hfz14_0
     try clear hfz14_1
     try clear hfz14_2
     try clear hfz14_3
     try clear hfz7_0
     try clear hfz9_0
     try clear p2
     obtain ⟨x19_2,x4000_2,x4001_2,x4002_2,x4003_2,rfl,HA,HK2,BK1,BK3,HB⟩:=hrel
     cases gk with
     | zero=>exact absurd HA.out (by simp [impl_ValidProgram.l0])
     | succ k2 =>
      have H:=HA.out
      clear HA
      simp only [impl_ValidProgram.l0] at H
      by_cases c15 : x19_2 < (l1.length : Int)
      ·rw [if_pos c15] at H
       have c15b0 : decide (x19_2 < (l1.length : Int)) = true:=decide_eq_true c15
       clear c15
       by_cases c16 : 0 ≤ x19_2
       ·rw [if_pos c16] at H
        have c16b0 : decide (0 ≤ x19_2) = true:=decide_eq_true c16
        clear c16
        by_cases c17 : x19_2 < (l1.length : Int)
        ·rw [if_pos c17] at H
         have c17b0 : decide (x19_2 < (l1.length : Int)) = true:=decide_eq_true c17
         clear c17
         replace H:=Option.bind_eq_some_iff.mp H
         obtain ⟨t9,A180,H⟩:=H
         try dsimp only at H
         have A18:=a0_ A180
         clear A180
         by_cases c19 : t9 = true
         ·subst c19
          have H1 : ((impl_within.f ((rd_T75 l1 x19_2).f0) 0 5).bind fun t10=>(if t10 = true then ((impl_Line_opens.f x4000_2 x4001_2 x4002_2 x4003_2).bind fun t11=>(if t11 = true then (if ((rd_T75 l1 x19_2).f0) = (wrap64 (x4000_2 + 1)) then ((impl_Line_opens.f x4000_2 x4001_2 x4002_2 x4003_2).bind fun t12=>(if t12 = true then (impl_ValidProgram.l0 k2 l1 l1 (l1.length : Int) (wrap64 (x19_2 + 1)) l0_0 ((rd_T75 l1 x19_2).f0) ((rd_T75 l1 x19_2).f1) ((rd_T75 l1 x19_2).f2) ((rd_T75 l1 x19_2).f3)) else (if ((rd_T75 l1 x19_2).f0) > x4000_2 then (some false) else (impl_ValidProgram.l0 k2 l1 l1 (l1.length : Int) (wrap64 (x19_2 + 1)) l0_0 ((rd_T75 l1 x19_2).f0) ((rd_T75 l1 x19_2).f1) ((rd_T75 l1 x19_2).f2) ((rd_T75 l1 x19_2).f3))))) else (some false)) else ((impl_Line_opens.f x4000_2 x4001_2 x4002_2 x4003_2).bind fun t13=>(if t13 = true then (impl_ValidProgram.l0 k2 l1 l1 (l1.length : Int) (wrap64 (x19_2 + 1)) l0_0 ((rd_T75 l1 x19_2).f0) ((rd_T75 l1 x19_2).f1) ((rd_T75 l1 x19_2).f2) ((rd_T75 l1 x19_2).f3)) else (if ((rd_T75 l1 x19_2).f0) > x4000_2 then (some false) else (impl_ValidProgram.l0 k2 l1 l1 (l1.length : Int) (wrap64 (x19_2 + 1)) l0_0 ((rd_T75 l1 x19_2).f0) ((rd_T75 l1 x19_2).f1) ((rd_T75 l1 x19_2).f2) ((rd_T75 l1 x19_2).f3))))))) else (some false))) = some r:=by rw [if_pos rfl] at H;exact H
          clear H
          have H:=H1
          clear H1
          replace H:=Option.bind_eq_some_iff.mp H
          obtain ⟨t10,A200,H⟩:=H
          try dsimp only at H
          have A20:=a0_ A200
          clear A200
          by_cases c21 : t10 = true
          ·subst c21
           have H1 : ((impl_Line_opens.f x4000_2 x4001_2 x4002_2 x4003_2).bind fun t11=>(if t11 = true then (if ((rd_T75 l1 x19_2).f0) = (wrap64 (x4000_2 + 1)) then ((impl_Line_opens.f x4000_2 x4001_2 x4002_2 x4003_2).bind fun t12=>(if t12 = true then (impl_ValidProgram.l0 k2 l1 l1 (l1.length : Int) (wrap64 (x19_2 + 1)) l0_0 ((rd_T75 l1 x19_2).f0) ((rd_T75 l1 x19_2).f1) ((rd_T75 l1 x19_2).f2) ((rd_T75 l1 x19_2).f3)) else (if ((rd_T75 l1 x19_2).f0) > x4000_2 then (some false) else (impl_ValidProgram.l0 k2 l1 l1 (l1.length : Int) (wrap64 (x19_2 + 1)) l0_0 ((rd_T75 l1 x19_2).f0) ((rd_T75 l1 x19_2).f1) ((rd_T75 l1 x19_2).f2) ((rd_T75 l1 x19_2).f3))))) else (some false)) else ((impl_Line_opens.f x4000_2 x4001_2 x4002_2 x4003_2).bind fun t13=>(if t13 = true then (impl_ValidProgram.l0 k2 l1 l1 (l1.length : Int) (wrap64 (x19_2 + 1)) l0_0 ((rd_T75 l1 x19_2).f0) ((rd_T75 l1 x19_2).f1) ((rd_T75 l1 x19_2).f2) ((rd_T75 l1 x19_2).f3)) else (if ((rd_T75 l1 x19_2).f0) > x4000_2 then (some false) else (impl_ValidProgram.l0 k2 l1 l1 (l1.length : Int) (wrap64 (x19_2 + 1)) l0_0 ((rd_T75 l1 x19_2).f0) ((rd_T75 l1 x19_2).f1) ((rd_T75 l1 x19_2).f2) ((rd_T75 l1 x19_2).f3))))))) = some r:=by rw [if_pos rfl] at H;exact H
           clear H
           have H:=H1
           clear H1
           replace H:=Option.bind_eq_some_iff.mp H
           obtain ⟨t11,A220,H⟩:=H
           try dsimp only at H
           have A22:=a0_ A220
           clear A220
           by_cases c23 : t11 = true
           ·subst c23
            have H1 : (if ((rd_T75 l1 x19_2).f0) = (wrap64 (x4000_2 + 1)) then ((impl_Line_opens.f x4000_2 x4001_2 x4002_2 x4003_2).bind fun t12=>(if t12 = true then (impl_ValidProgram.l0 k2 l1 l1 (l1.length : Int) (wrap64 (x19_2 + 1)) l0_0 ((rd_T75 l1 x19_2).f0) ((rd_T75 l1 x19_2).f1) ((rd_T75 l1 x19_2).f2) ((rd_T75 l1 x19_2).f3)) else (if ((rd_T75 l1 x19_2).f0) > x4000_2 then (some false) else (impl_ValidProgram.l0 k2 l1 l1 (l1.length : Int) (wrap64 (x19_2 + 1)) l0_0 ((rd_T75 l1 x19_2).f0) ((rd_T75 l1 x19_2).f1) ((rd_T75 l1 x19_2).f2) ((rd_T75 l1 x19_2).f3))))) else (some false)) = some r:=by rw [if_pos rfl] at H;exact H
            clear H
            have H:=H1
            clear H1
            by_cases c24 : ((rd_T75 l1 x19_2).f0) = (wrap64 (x4000_2 + 1))
            ·rw [if_pos c24] at H
             have c24b0 : (((rd_T75 l1 x19_2).f0) == (wrap64 (x4000_2 + 1))) = true:=beq_iff_eq.mpr c24
             have c24b1 : (((rd_T75 l1 x19_2).f0) != (wrap64 (x4000_2 + 1))) = false:=bne_eq_false_iff_eq.mpr c24
             clear c24
             replace H:=Option.bind_eq_some_iff.mp H
             obtain ⟨t12,A250,H⟩:=H
             try dsimp only at H
             have A25:=a0_ A250
             clear A250
             by_cases c26 : t12 = true
             ·subst c26
              have H1 : (impl_ValidProgram.l0 k2 l1 l1 (l1.length : Int) (wrap64 (x19_2 + 1)) l0_0 ((rd_T75 l1 x19_2).f0) ((rd_T75 l1 x19_2).f1) ((rd_T75 l1 x19_2).f2) ((rd_T75 l1 x19_2).f3)) = some r:=by rw [if_pos rfl] at H;exact H
              clear H
              have H:=H1
              clear H1
              have H':=a0_ H
              clear H
              have p7 : 0 ≤ (x19_2 : Int):=of_decide_eq_true (by first | (with_reducible assumption) | assumption)
              have q7 : x19_2 < (l1.length : Int):=of_decide_eq_true (by first | (with_reducible assumption) | assumption)
              obtain ⟨ad7,e7,hx7_0,hx7_1,hx7_2,hx7_3⟩:=at_T75 HR1.out x19_2 p7 q7
              cases e7
              replace hx7_0:=(HB.out.cell (World.block_lt_of_cell? w _ hx7_0)).trans hx7_0
              replace hx7_1:=(HB.out.cell (World.block_lt_of_cell? w _ hx7_1)).trans hx7_1
              replace hx7_2:=(HB.out.cell (World.block_lt_of_cell? w _ hx7_2)).trans hx7_2
              replace hx7_3:=(HB.out.cell (World.block_lt_of_cell? w _ hx7_3)).trans hx7_3
              replace p7:=eq_true p7
              replace q7:=eq_true q7
              go_wp2_with (first | ((with_reducible refine gate_dst (N:=7) rfl ?_);(try (refine gate_guard (by rfl) ?_;dsimp only));refine box_event ?hg (N:=7) ?hd (cs:=#[.int .i64 0,.int .i64 0,.int .i64 0,.int .i64 0]) (t:=75) ?hr ?_;(case hd=>rfl);(case hg=>rfl);(case hr=>first | (go_simp;done) | (go_simp;rfl));intro gb8 hg w27 hbox hb;have n0_:=kb_ BK1 hb;have n1_:=kb_ BK3 hb;have n2_:=a0_ (below_step hbw_ hb);have n3_:=a0_ (hbox);have n4_:=a0_ ((by rw [hg];exact (below_size hbw_) : w.heap.size ≤ gb8));have n5_:=a0_ ((by rw [hg];exact (below_size hbw_) : w.heap.size ≤ gb8));have n6_:=a0_ ((by rw [hg];exact Nat.ne_of_lt (blk_lt (bb_ BK1.out)) : gb1 ≠ gb8));have n7_:=a0_ ((by rw [hg];exact Nat.ne_of_gt (blk_lt (bb_ BK1.out)) : gb8 ≠ gb1));have n8_:=a0_ ((by rw [hg];exact Nat.ne_of_lt (blk_lt (bb_ BK3.out)) : gb3 ≠ gb8));have n9_:=a0_ ((by rw [hg];exact Nat.ne_of_gt (blk_lt (bb_ BK3.out)) : gb8 ≠ gb3));clear BK1 BK3 HB;have BK1:=n0_;have BK3:=n1_;have HB:=n2_;have BK8:=n3_;have GW8:=n4_;have GE8:=n5_;have NB1_8:=n6_;have NB8_1:=n7_;have NB3_8:=n8_;have NB8_3:=n9_;clear n0_ n1_ n2_ n3_ n4_ n5_ n6_ n7_ n8_ n9_;clear hb hbox hg;have hnb28:=NB8_1.out;have hnc28:=NB1_8.out;have hnb29:=NB8_3.out;have hnc29:=NB3_8.out;have hcz30_0 : w27.cell? ⟨gb8,0,none⟩ = some (.int .i64 0):=(blk_cell BK8.out 0).trans rfl;have hcz30_1 : w27.cell? ⟨gb8,1,none⟩ = some (.int .i64 0):=(blk_cell BK8.out 1).trans rfl;have hcz30_2 : w27.cell? ⟨gb8,2,none⟩ = some (.int .i64 0):=(blk_cell BK8.out 2).trans rfl;have hcz30_3 : w27.cell? ⟨gb8,3,none⟩ = some (.int .i64 0):=(blk_cell BK8.out 3).trans rfl;have hfz30_0:=blk_frozen BK8.out 0;have hfz30_1:=blk_frozen BK8.out 1;have hfz30_2:=blk_frozen BK8.out 2;have hfz30_3:=blk_frozen BK8.out 3;have hnb31:=NB1_3.out;have hnc31:=NB3_1.out;have hcz32_0 : w27.cell? ⟨gb1,0,none⟩ = some (.slice A0_0 l0_0.length c0_0):=(blk_cell BK1.out 0).trans rfl;have hfz32_0:=blk_frozen BK1.out 0) | ((with_reducible refine gate_callee (f:=98) rfl ?_);refine goesL_ (some 25) rfl rfl Try.func98 (by kernel_rfl) rfl #[.agg #[.int .i64 ((rd_T75 l1 x19_2).f0),.int .i64 ((rd_T75 l1 x19_2).f1),.int .i64 ((rd_T75 l1 x19_2).f2),.int .i64 ((rd_T75 l1 x19_2).f3)],.agg #[.slice A0_0 l0_0.length c0_0]] rfl lm_ ?_;(with_reducible refine (impl_Line_argued.calls k2 ((rd_T75 l1 x19_2).f0) ((rd_T75 l1 x19_2).f1) ((rd_T75 l1 x19_2).f2) ((rd_T75 l1 x19_2).f3) _ _ l0_0 true _ ?side1 ?side2 A18.out).mono ?_);(case side1=>exact Kd.C_below HR0_0.out hbw_);(case side2=>exact HC0_0.out);rintro e w33 ⟨rfl,hb⟩;refine ⟨_,rfl,?_⟩;replace BK1:=a0_ (blk_below (g:=gb1) (o:=.cells #[.slice A0_0 l0_0.length c0_0] 25 (0,0)) (bff_ BK1.out) hb);replace BK3:=a0_ (blk_below (g:=gb3) (o:=.cells #[.int .i64 x4000_2,.int .i64 x4001_2,.int .i64 x4002_2,.int .i64 x4003_2] 75 (0,0)) (bff_ BK3.out) hb);replace BK8:=a0_ (blk_below (g:=gb8) (o:=.cells #[.int .i64 ((rd_T75 l1 x19_2).f0),.int .i64 ((rd_T75 l1 x19_2).f1),.int .i64 ((rd_T75 l1 x19_2).f2),.int .i64 ((rd_T75 l1 x19_2).f3)] 75 (0,0)) (by (with_reducible repeat (first | refine blk_drewN ?_ _ | refine blk_drew ?_ | refine blk_alloc ?_ _));refine blk_put (cs:=#[.int .i64 ((rd_T75 l1 x19_2).f0),.int .i64 ((rd_T75 l1 x19_2).f1),.int .i64 ((rd_T75 l1 x19_2).f2),.int .i64 0]) ?_ 3 _ rfl;(with_reducible repeat (first | refine blk_drewN ?_ _ | refine blk_drew ?_ | refine blk_alloc ?_ _));refine blk_put (cs:=#[.int .i64 ((rd_T75 l1 x19_2).f0),.int .i64 ((rd_T75 l1 x19_2).f1),.int .i64 0,.int .i64 0]) ?_ 2 _ rfl;(with_reducible repeat (first | refine blk_drewN ?_ _ | refine blk_drew ?_ | refine blk_alloc ?_ _));refine blk_put (cs:=#[.int .i64 ((rd_T75 l1 x19_2).f0),.int .i64 0,.int .i64 0,.int .i64 0]) ?_ 1 _ rfl;(with_reducible repeat (first | refine blk_drewN ?_ _ | refine blk_drew ?_ | refine blk_alloc ?_ _));refine blk_put (cs:=#[.int .i64 0,.int .i64 0,.int .i64 0,.int .i64 0]) ?_ 0 _ rfl;(with_reducible repeat (first | refine blk_drewN ?_ _ | refine blk_drew ?_ | refine blk_alloc ?_ _));exact BK8.out) hb);replace HB:=a0_ (below_step hbw_ hb);(try clear hb);have hcz34_0 : w33.cell? ⟨gb8,0,none⟩ = some (.int .i64 ((rd_T75 l1 x19_2).f0)):=(blk_cell BK8.out 0).trans rfl;have hcz34_1 : w33.cell? ⟨gb8,1,none⟩ = some (.int .i64 ((rd_T75 l1 x19_2).f1)):=(blk_cell BK8.out 1).trans rfl;have hcz34_2 : w33.cell? ⟨gb8,2,none⟩ = some (.int .i64 ((rd_T75 l1 x19_2).f2)):=(blk_cell BK8.out 2).trans rfl;have hcz34_3 : w33.cell? ⟨gb8,3,none⟩ = some (.int .i64 ((rd_T75 l1 x19_2).f3)):=(blk_cell BK8.out 3).trans rfl;have hfz34_0:=blk_frozen BK8.out 0;have hfz34_1:=blk_frozen BK8.out 1;have hfz34_2:=blk_frozen BK8.out 2;have hfz34_3:=blk_frozen BK8.out 3) | (go_at_call 75;(with_reducible refine (impl_within.calls ((rd_T75 l1 x19_2).f0) 0 5 true _ A20.out).mono ?_);rintro e w' ⟨rfl,⟨nd,rfl⟩⟩;(try (rw [drewN_self w33];generalize hq_ : World.drewN w33 _ = w33;have n0_ : Aside0 (w33.heap[gb1]? = some (.cells #[.slice A0_0 l0_0.length c0_0] 25 (0,0))):=⟨by rw [← hq_];exact (bb_ BK1.out)⟩;have n1_ : Aside0 (w33.heap[gb3]? = some (.cells #[.int .i64 x4000_2,.int .i64 x4001_2,.int .i64 x4002_2,.int .i64 x4003_2] 75 (0,0))):=⟨by rw [← hq_];exact (bb_ BK3.out)⟩;have n2_ : Aside0 (w33.heap[gb8]? = some (.cells #[.int .i64 ((rd_T75 l1 x19_2).f0),.int .i64 ((rd_T75 l1 x19_2).f1),.int .i64 ((rd_T75 l1 x19_2).f2),.int .i64 ((rd_T75 l1 x19_2).f3)] 75 (0,0))):=⟨by rw [← hq_];exact (bb_ BK8.out)⟩;have n3_ : Aside0 (Below w.heap.size w w33):=⟨by rw [← hq_];exact hbw_⟩;clear BK1 BK3 BK8 HB hq_;have BK1:=n0_;have BK3:=n1_;have BK8:=n2_;have HB:=n3_;clear n0_ n1_ n2_ n3_));have hcz35_0 : w33.cell? ⟨gb3,0,none⟩ = some (.int .i64 x4000_2):=(blk_cell BK3.out 0).trans rfl;have hcz35_1 : w33.cell? ⟨gb3,1,none⟩ = some (.int .i64 x4001_2):=(blk_cell BK3.out 1).trans rfl;have hcz35_2 : w33.cell? ⟨gb3,2,none⟩ = some (.int .i64 x4002_2):=(blk_cell BK3.out 2).trans rfl;have hcz35_3 : w33.cell? ⟨gb3,3,none⟩ = some (.int .i64 x4003_2):=(blk_cell BK3.out 3).trans rfl;have hfz35_0:=blk_frozen BK3.out 0;have hfz35_1:=blk_frozen BK3.out 1;have hfz35_2:=blk_frozen BK3.out 2;have hfz35_3:=blk_frozen BK3.out 3) | (go_at_call 99;(with_reducible refine (impl_Line_opens.calls x4000_2 x4001_2 x4002_2 x4003_2 true _ A22.out).mono ?_);rintro e w36 ⟨rfl,hb⟩;replace BK1:=kb_ BK1 hb;replace BK3:=kb_ BK3 hb;replace BK8:=kb_ BK8 hb;replace HB:=a0_ (below_step hbw_ hb);(try clear hb);have hcz37_0 : w36.cell? ⟨gb8,0,none⟩ = some (.int .i64 ((rd_T75 l1 x19_2).f0)):=(blk_cell BK8.out 0).trans rfl;have hcz37_1 : w36.cell? ⟨gb8,1,none⟩ = some (.int .i64 ((rd_T75 l1 x19_2).f1)):=(blk_cell BK8.out 1).trans rfl;have hcz37_2 : w36.cell? ⟨gb8,2,none⟩ = some (.int .i64 ((rd_T75 l1 x19_2).f2)):=(blk_cell BK8.out 2).trans rfl;have hcz37_3 : w36.cell? ⟨gb8,3,none⟩ = some (.int .i64 ((rd_T75 l1 x19_2).f3)):=(blk_cell BK8.out 3).trans rfl;have hfz37_0:=blk_frozen BK8.out 0;have hfz37_1:=blk_frozen BK8.out 1;have hfz37_2:=blk_frozen BK8.out 2;have hfz37_3:=blk_frozen BK8.out 3;have hcz38_0 : w36.cell? ⟨gb3,0,none⟩ = some (.int .i64 x4000_2):=(blk_cell BK3.out 0).trans rfl;have hcz38_1 : w36.cell? ⟨gb3,1,none⟩ = some (.int .i64 x4001_2):=(blk_cell BK3.out 1).trans rfl;have hcz38_2 : w36.cell? ⟨gb3,2,none⟩ = some (.int .i64 x4002_2):=(blk_cell BK3.out 2).trans rfl;have hcz38_3 : w36.cell? ⟨gb3,3,none⟩ = some (.int .i64 x4003_2):=(blk_cell BK3.out 3).trans rfl;have hfz38_0:=blk_frozen BK3.out 0;have hfz38_1:=blk_frozen BK3.out 1;have hfz38_2:=blk_frozen BK3.out 2;have hfz38_3:=blk_frozen BK3.out 3) | (go_at_call 99;(with_reducible refine (impl_Line_opens.calls x4000_2 x4001_2 x4002_2 x4003_2 true _ A25.out).mono ?_);rintro e w39 ⟨rfl,hb⟩;replace BK1:=kb_ BK1 hb;replace BK3:=kb_ BK3 hb;replace BK8:=kb_ BK8 hb;replace HB:=a0_ (below_step hbw_ hb);(try clear hb);have hcz40_0 : w39.cell? ⟨gb8,0,none⟩ = some (.int .i64 ((rd_T75 l1 x19_2).f0)):=(blk_cell BK8.out 0).trans rfl;have hcz40_1 : w39.cell? ⟨gb8,1,none⟩ = some (.int .i64 ((rd_T75 l1 x19_2).f1)):=(blk_cell BK8.out 1).trans rfl;have hcz40_2 : w39.cell? ⟨gb8,2,none⟩ = some (.int .i64 ((rd_T75 l1 x19_2).f2)):=(blk_cell BK8.out 2).trans rfl;have hcz40_3 : w39.cell? ⟨gb8,3,none⟩ = some (.int .i64 ((rd_T75 l1 x19_2).f3)):=(blk_cell BK8.out 3).trans rfl;have hfz40_0:=blk_frozen BK8.out 0;have hfz40_1:=blk_frozen BK8.out 1;have hfz40_2:=blk_frozen BK8.out 2;have hfz40_3:=blk_frozen BK8.out 3;have hcz41_0 : w39.cell? ⟨gb3,0,none⟩ = some (.int .i64 x4000_2):=(blk_cell BK3.out 0).trans rfl;have hcz41_1 : w39.cell? ⟨gb3,1,none⟩ = some (.int .i64 x4001_2):=(blk_cell BK3.out 1).trans rfl;have hcz41_2 : w39.cell? ⟨gb3,2,none⟩ = some (.int .i64 x4002_2):=(blk_cell BK3.out 2).trans rfl;have hcz41_3 : w39.cell? ⟨gb3,3,none⟩ = some (.int .i64 x4003_2):=(blk_cell BK3.out 3).trans rfl;have hfz41_0:=blk_frozen BK3.out 0;have hfz41_1:=blk_frozen BK3.out 1;have hfz41_2:=blk_frozen BK3.out 2;have hfz41_3:=blk_frozen BK3.out 3))
              go_roundg k2
              case measure=>have:=HJ2.out;have:=HK2.out;omega
              case rel=>exact ⟨(wrap64 (x19_2 + 1)),((rd_T75 l1 x19_2).f0),((rd_T75 l1 x19_2).f1),((rd_T75 l1 x19_2).f2),((rd_T75 l1 x19_2).f3),(by first | rfl | (simp;done) | (simp [*];done)),H',⟨by have:=HJ2.out;have:=HK2.out;omega⟩,⟨by (with_reducible repeat (first | refine blk_drewN ?_ _ | refine blk_drew ?_ | refine blk_alloc ?_ _));refine blk_far ?_ NB1_3.out _;(with_reducible repeat (first | refine blk_drewN ?_ _ | refine blk_drew ?_ | refine blk_alloc ?_ _));refine blk_far ?_ NB1_3.out _;(with_reducible repeat (first | refine blk_drewN ?_ _ | refine blk_drew ?_ | refine blk_alloc ?_ _));refine blk_far ?_ NB1_3.out _;(with_reducible repeat (first | refine blk_drewN ?_ _ | refine blk_drew ?_ | refine blk_alloc ?_ _));refine blk_far ?_ NB1_3.out _;(with_reducible repeat (first | refine blk_drewN ?_ _ | refine blk_drew ?_ | refine blk_alloc ?_ _));exact BK1.out⟩,⟨by (with_reducible repeat (first | refine blk_drewN ?_ _ | refine blk_drew ?_ | refine blk_alloc ?_ _));refine blk_put (cs:=#[.int .i64 ((rd_T75 l1 x19_2).f0),.int .i64 ((rd_T75 l1 x19_2).f1),.int .i64 ((rd_T75 l1 x19_2).f2),.int .i64 x4003_2]) ?_ 3 _ rfl;(with_reducible repeat (first | refine blk_drewN ?_ _ | refine blk_drew ?_ | refine blk_alloc ?_ _));refine blk_put (cs:=#[.int .i64 ((rd_T75 l1 x19_2).f0),.int .i64 ((rd_T75 l1 x19_2).f1),.int .i64 x4002_2,.int .i64 x4003_2]) ?_ 2 _ rfl;(with_reducible repeat (first | refine blk_drewN ?_ _ | refine blk_drew ?_ | refine blk_alloc ?_ _));refine blk_put (cs:=#[.int .i64 ((rd_T75 l1 x19_2).f0),.int .i64 x4001_2,.int .i64 x4002_2,.int .i64 x4003_2]) ?_ 1 _ rfl;(with_reducible repeat (first | refine blk_drewN ?_ _ | refine blk_drew ?_ | refine blk_alloc ?_ _));refine blk_put (cs:=#[.int .i64 x4000_2,.int .i64 x4001_2,.int .i64 x4002_2,.int .i64 x4003_2]) ?_ 0 _ rfl;(with_reducible repeat (first | refine blk_drewN ?_ _ | refine blk_drew ?_ | refine blk_alloc ?_ _));exact BK3.out⟩,⟨hbw_⟩⟩
             ·replace c26:=Bool.eq_false_iff.mpr c26
              subst c26
              exact absurd (A22.out.symm.trans A25.out) (by simp)
            ·rw [if_neg c24] at H
             have c24b0 : (((rd_T75 l1 x19_2).f0) == (wrap64 (x4000_2 + 1))) = false:=beq_eq_false_iff_ne.mpr c24
             have c24b1 : (((rd_T75 l1 x19_2).f0) != (wrap64 (x4000_2 + 1))) = true:=bne_iff_ne.mpr c24
             obtain rfl:=Option.some.inj H
             have p7 : 0 ≤ (x19_2 : Int):=of_decide_eq_true (by first | (with_reducible assumption) | assumption)
             have q7 : x19_2 < (l1.length : Int):=of_decide_eq_true (by first | (with_reducible assumption) | assumption)
             obtain ⟨ad7,e7,hx7_0,hx7_1,hx7_2,hx7_3⟩:=at_T75 HR1.out x19_2 p7 q7
             cases e7
             replace hx7_0:=(HB.out.cell (World.block_lt_of_cell? w _ hx7_0)).trans hx7_0
             replace hx7_1:=(HB.out.cell (World.block_lt_of_cell? w _ hx7_1)).trans hx7_1
             replace hx7_2:=(HB.out.cell (World.block_lt_of_cell? w _ hx7_2)).trans hx7_2
             replace hx7_3:=(HB.out.cell (World.block_lt_of_cell? w _ hx7_3)).trans hx7_3
             replace p7:=eq_true p7
             replace q7:=eq_true q7
             go_wp2_with (first | ((with_reducible refine gate_dst (N:=7) rfl ?_);(try (refine gate_guard (by rfl) ?_;dsimp only));refine box_event ?hg (N:=7) ?hd (cs:=#[.int .i64 0,.int .i64 0,.int .i64 0,.int .i64 0]) (t:=75) ?hr ?_;(case hd=>rfl);(case hg=>rfl);(case hr=>first | (go_simp;done) | (go_simp;rfl));intro gb8 hg w73 hbox hb;have n0_:=kb_ BK1 hb;have n1_:=kb_ BK3 hb;have n2_:=a0_ (below_step hbw_ hb);have n3_:=a0_ (hbox);have n4_:=a0_ ((by rw [hg];exact (below_size hbw_) : w.heap.size ≤ gb8));have n5_:=a0_ ((by rw [hg];exact (below_size hbw_) : w.heap.size ≤ gb8));have n6_:=a0_ ((by rw [hg];exact Nat.ne_of_lt (blk_lt (bb_ BK1.out)) : gb1 ≠ gb8));have n7_:=a0_ ((by rw [hg];exact Nat.ne_of_gt (blk_lt (bb_ BK1.out)) : gb8 ≠ gb1));have n8_:=a0_ ((by rw [hg];exact Nat.ne_of_lt (blk_lt (bb_ BK3.out)) : gb3 ≠ gb8));have n9_:=a0_ ((by rw [hg];exact Nat.ne_of_gt (blk_lt (bb_ BK3.out)) : gb8 ≠ gb3));clear BK1 BK3 HB;have BK1:=n0_;have BK3:=n1_;have HB:=n2_;have BK8:=n3_;have GW8:=n4_;have GE8:=n5_;have NB1_8:=n6_;have NB8_1:=n7_;have NB3_8:=n8_;have NB8_3:=n9_;clear n0_ n1_ n2_ n3_ n4_ n5_ n6_ n7_ n8_ n9_;clear hb hbox hg;have hnb74:=NB8_1.out;have hnc74:=NB1_8.out;have hnb75:=NB8_3.out;have hnc75:=NB3_8.out;have hcz76_0 : w73.cell? ⟨gb8,0,none⟩ = some (.int .i64 0):=(blk_cell BK8.out 0).trans rfl;have hcz76_1 : w73.cell? ⟨gb8,1,none⟩ = some (.int .i64 0):=(blk_cell BK8.out 1).trans rfl;have hcz76_2 : w73.cell? ⟨gb8,2,none⟩ = some (.int .i64 0):=(blk_cell BK8.out 2).trans rfl;have hcz76_3 : w73.cell? ⟨gb8,3,none⟩ = some (.int .i64 0):=(blk_cell BK8.out 3).trans rfl;have hfz76_0:=blk_frozen BK8.out 0;have hfz76_1:=blk_frozen BK8.out 1;have hfz76_2:=blk_frozen BK8.out 2;have hfz76_3:=blk_frozen BK8.out 3;have hnb77:=NB1_3.out;have hnc77:=NB3_1.out;have hcz78_0 : w73.cell? ⟨gb1,0,none⟩ = some (.slice A0_0 l0_0.length c0_0):=(blk_cell BK1.out 0).trans rfl;have hfz78_0:=blk_frozen BK1.out 0) | ((with_reducible refine gate_callee (f:=98) rfl ?_);refine goesL_ (some 25) rfl rfl Try.func98 (by kernel_rfl) rfl #[.agg #[.int .i64 ((rd_T75 l1 x19_2).f0),.int .i64 ((rd_T75 l1 x19_2).f1),.int .i64 ((rd_T75 l1 x19_2).f2),.int .i64 ((rd_T75 l1 x19_2).f3)],.agg #[.slice A0_0 l0_0.length c0_0]] rfl lm_ ?_;(with_reducible refine (impl_Line_argued.calls k2 ((rd_T75 l1 x19_2).f0) ((rd_T75 l1 x19_2).f1) ((rd_T75 l1 x19_2).f2) ((rd_T75 l1 x19_2).f3) _ _ l0_0 true _ ?side1 ?side2 A18.out).mono ?_);(case side1=>exact Kd.C_below HR0_0.out hbw_);(case side2=>exact HC0_0.out);rintro e w79 ⟨rfl,hb⟩;refine ⟨_,rfl,?_⟩;replace BK1:=a0_ (blk_below (g:=gb1) (o:=.cells #[.slice A0_0 l0_0.length c0_0] 25 (0,0)) (bff_ BK1.out) hb);replace BK3:=a0_ (blk_below (g:=gb3) (o:=.cells #[.int .i64 x4000_2,.int .i64 x4001_2,.int .i64 x4002_2,.int .i64 x4003_2] 75 (0,0)) (bff_ BK3.out) hb);replace BK8:=a0_ (blk_below (g:=gb8) (o:=.cells #[.int .i64 ((rd_T75 l1 x19_2).f0),.int .i64 ((rd_T75 l1 x19_2).f1),.int .i64 ((rd_T75 l1 x19_2).f2),.int .i64 ((rd_T75 l1 x19_2).f3)] 75 (0,0)) (by (with_reducible repeat (first | refine blk_drewN ?_ _ | refine blk_drew ?_ | refine blk_alloc ?_ _));refine blk_put (cs:=#[.int .i64 ((rd_T75 l1 x19_2).f0),.int .i64 ((rd_T75 l1 x19_2).f1),.int .i64 ((rd_T75 l1 x19_2).f2),.int .i64 0]) ?_ 3 _ rfl;(with_reducible repeat (first | refine blk_drewN ?_ _ | refine blk_drew ?_ | refine blk_alloc ?_ _));refine blk_put (cs:=#[.int .i64 ((rd_T75 l1 x19_2).f0),.int .i64 ((rd_T75 l1 x19_2).f1),.int .i64 0,.int .i64 0]) ?_ 2 _ rfl;(with_reducible repeat (first | refine blk_drewN ?_ _ | refine blk_drew ?_ | refine blk_alloc ?_ _));refine blk_put (cs:=#[.int .i64 ((rd_T75 l1 x19_2).f0),.int .i64 0,.int .i64 0,.int .i64 0]) ?_ 1 _ rfl;(with_reducible repeat (first | refine blk_drewN ?_ _ | refine blk_drew ?_ | refine blk_alloc ?_ _));refine blk_put (cs:=#[.int .i64 0,.int .i64 0,.int .i64 0,.int .i64 0]) ?_ 0 _ rfl;(with_reducible repeat (first | refine blk_drewN ?_ _ | refine blk_drew ?_ | refine blk_alloc ?_ _));exact BK8.out) hb);replace HB:=a0_ (below_step hbw_ hb);(try clear hb);have hcz80_0 : w79.cell? ⟨gb8,0,none⟩ = some (.int .i64 ((rd_T75 l1 x19_2).f0)):=(blk_cell BK8.out 0).trans rfl;have hcz80_1 : w79.cell? ⟨gb8,1,none⟩ = some (.int .i64 ((rd_T75 l1 x19_2).f1)):=(blk_cell BK8.out 1).trans rfl;have hcz80_2 : w79.cell? ⟨gb8,2,none⟩ = some (.int .i64 ((rd_T75 l1 x19_2).f2)):=(blk_cell BK8.out 2).trans rfl;have hcz80_3 : w79.cell? ⟨gb8,3,none⟩ = some (.int .i64 ((rd_T75 l1 x19_2).f3)):=(blk_cell BK8.out 3).trans rfl;have hfz80_0:=blk_frozen BK8.out 0;have hfz80_1:=blk_frozen BK8.out 1;have hfz80_2:=blk_frozen BK8.out 2;have hfz80_3:=blk_frozen BK8.out 3) | (go_at_call 75;(with_reducible refine (impl_within.calls ((rd_T75 l1 x19_2).f0) 0 5 true _ A20.out).mono ?_);rintro e w' ⟨rfl,⟨nd,rfl⟩⟩;have hcz81_0 : w79.cell? ⟨gb3,0,none⟩ = some (.int .i64 x4000_2):=(blk_cell BK3.out 0).trans rfl;have hcz81_1 : w79.cell? ⟨gb3,1,none⟩ = some (.int .i64 x4001_2):=(blk_cell BK3.out 1).trans rfl;have hcz81_2 : w79.cell? ⟨gb3,2,none⟩ = some (.int .i64 x4002_2):=(blk_cell BK3.out 2).trans rfl;have hcz81_3 : w79.cell? ⟨gb3,3,none⟩ = some (.int .i64 x4003_2):=(blk_cell BK3.out 3).trans rfl;have hfz81_0:=blk_frozen BK3.out 0;have hfz81_1:=blk_frozen BK3.out 1;have hfz81_2:=blk_frozen BK3.out 2;have hfz81_3:=blk_frozen BK3.out 3) | (go_at_call 99;(with_reducible refine (impl_Line_opens.calls x4000_2 x4001_2 x4002_2 x4003_2 true _ A22.out).mono ?_);rintro e w82 ⟨rfl,hb⟩;replace BK1:=kb_ BK1 hb;replace BK3:=kb_ BK3 hb;replace BK8:=kb_ BK8 hb;replace HB:=a0_ (below_step hbw_ hb);(try clear hb);have hcz83_0 : w82.cell? ⟨gb8,0,none⟩ = some (.int .i64 ((rd_T75 l1 x19_2).f0)):=(blk_cell BK8.out 0).trans rfl;have hcz83_1 : w82.cell? ⟨gb8,1,none⟩ = some (.int .i64 ((rd_T75 l1 x19_2).f1)):=(blk_cell BK8.out 1).trans rfl;have hcz83_2 : w82.cell? ⟨gb8,2,none⟩ = some (.int .i64 ((rd_T75 l1 x19_2).f2)):=(blk_cell BK8.out 2).trans rfl;have hcz83_3 : w82.cell? ⟨gb8,3,none⟩ = some (.int .i64 ((rd_T75 l1 x19_2).f3)):=(blk_cell BK8.out 3).trans rfl;have hfz83_0:=blk_frozen BK8.out 0;have hfz83_1:=blk_frozen BK8.out 1;have hfz83_2:=blk_frozen BK8.out 2;have hfz83_3:=blk_frozen BK8.out 3;have hcz84_0 : w82.cell? ⟨gb3,0,none⟩ = some (.int .i64 x4000_2):=(blk_cell BK3.out 0).trans rfl;have hcz84_1 : w82.cell? ⟨gb3,1,none⟩ = some (.int .i64 x4001_2):=(blk_cell BK3.out 1).trans rfl;have hcz84_2 : w82.cell? ⟨gb3,2,none⟩ = some (.int .i64 x4002_2):=(blk_cell BK3.out 2).trans rfl;have hcz84_3 : w82.cell? ⟨gb3,3,none⟩ = some (.int .i64 x4003_2):=(blk_cell BK3.out 3).trans rfl;have hfz84_0:=blk_frozen BK3.out 0;have hfz84_1:=blk_frozen BK3.out 1;have hfz84_2:=blk_frozen BK3.out 2;have hfz84_3:=blk_frozen BK3.out 3))
             go_ret
             exact ⟨by first | rfl | (simp [errW_none,errW_some] <;> rfl) | (simp [*,errW_none,errW_some] <;> rfl),hbw_⟩
           ·replace c23:=Bool.eq_false_iff.mpr c23
            subst c23
            have H1 : ((impl_Line_opens.f x4000_2 x4001_2 x4002_2 x4003_2).bind fun t13=>(if t13 = true then (impl_ValidProgram.l0 k2 l1 l1 (l1.length : Int) (wrap64 (x19_2 + 1)) l0_0 ((rd_T75 l1 x19_2).f0) ((rd_T75 l1 x19_2).f1) ((rd_T75 l1 x19_2).f2) ((rd_T75 l1 x19_2).f3)) else (if ((rd_T75 l1 x19_2).f0) > x4000_2 then (some false) else (impl_ValidProgram.l0 k2 l1 l1 (l1.length : Int) (wrap64 (x19_2 + 1)) l0_0 ((rd_T75 l1 x19_2).f0) ((rd_T75 l1 x19_2).f1) ((rd_T75 l1 x19_2).f2) ((rd_T75 l1 x19_2).f3))))) = some r:=by rw [if_neg (show ¬ (false = true) by decide)] at H;exact H
            clear H
            have H:=H1
            clear H1
            replace H:=Option.bind_eq_some_iff.mp H
            obtain ⟨t13,A850,H⟩:=H
            try dsimp only at H
            have A85:=a0_ A850
            clear A850
            by_cases c86 : t13 = true
            ·subst c86
             exact absurd (A22.out.symm.trans A85.out) (by simp)
            ·replace c86:=Bool.eq_false_iff.mpr c86
             subst c86
             have H1 : (if ((rd_T75 l1 x19_2).f0) > x4000_2 then (some false) else (impl_ValidProgram.l0 k2 l1 l1 (l1.length : Int) (wrap64 (x19_2 + 1)) l0_0 ((rd_T75 l1 x19_2).f0) ((rd_T75 l1 x19_2).f1) ((rd_T75 l1 x19_2).f2) ((rd_T75 l1 x19_2).f3))) = some r:=by rw [if_neg (show ¬ (false = true) by decide)] at H;exact H
             clear H
             have H:=H1
             clear H1
             by_cases c101 : ((rd_T75 l1 x19_2).f0) > x4000_2
             ·rw [if_pos c101] at H
              have c101b0 : decide (x4000_2 < ((rd_T75 l1 x19_2).f0)) = true:=decide_eq_true c101
              clear c101
              obtain rfl:=Option.some.inj H
              have p7 : 0 ≤ (x19_2 : Int):=of_decide_eq_true (by first | (with_reducible assumption) | assumption)
              have q7 : x19_2 < (l1.length : Int):=of_decide_eq_true (by first | (with_reducible assumption) | assumption)
              obtain ⟨ad7,e7,hx7_0,hx7_1,hx7_2,hx7_3⟩:=at_T75 HR1.out x19_2 p7 q7
              cases e7
              replace hx7_0:=(HB.out.cell (World.block_lt_of_cell? w _ hx7_0)).trans hx7_0
              replace hx7_1:=(HB.out.cell (World.block_lt_of_cell? w _ hx7_1)).trans hx7_1
              replace hx7_2:=(HB.out.cell (World.block_lt_of_cell? w _ hx7_2)).trans hx7_2
              replace hx7_3:=(HB.out.cell (World.block_lt_of_cell? w _ hx7_3)).trans hx7_3
              replace p7:=eq_true p7
              replace q7:=eq_true q7
              go_wp2_with (first | ((with_reducible refine gate_dst (N:=7) rfl ?_);(try (refine gate_guard (by rfl) ?_;dsimp only));refine box_event ?hg (N:=7) ?hd (cs:=#[.int .i64 0,.int .i64 0,.int .i64 0,.int .i64 0]) (t:=75) ?hr ?_;(case hd=>rfl);(case hg=>rfl);(case hr=>first | (go_simp;done) | (go_simp;rfl));intro gb8 hg w102 hbox hb;have n0_:=kb_ BK1 hb;have n1_:=kb_ BK3 hb;have n2_:=a0_ (below_step hbw_ hb);have n3_:=a0_ (hbox);have n4_:=a0_ ((by rw [hg];exact (below_size hbw_) : w.heap.size ≤ gb8));have n5_:=a0_ ((by rw [hg];exact (below_size hbw_) : w.heap.size ≤ gb8));have n6_:=a0_ ((by rw [hg];exact Nat.ne_of_lt (blk_lt (bb_ BK1.out)) : gb1 ≠ gb8));have n7_:=a0_ ((by rw [hg];exact Nat.ne_of_gt (blk_lt (bb_ BK1.out)) : gb8 ≠ gb1));have n8_:=a0_ ((by rw [hg];exact Nat.ne_of_lt (blk_lt (bb_ BK3.out)) : gb3 ≠ gb8));have n9_:=a0_ ((by rw [hg];exact Nat.ne_of_gt (blk_lt (bb_ BK3.out)) : gb8 ≠ gb3));clear BK1 BK3 HB;have BK1:=n0_;have BK3:=n1_;have HB:=n2_;have BK8:=n3_;have GW8:=n4_;have GE8:=n5_;have NB1_8:=n6_;have NB8_1:=n7_;have NB3_8:=n8_;have NB8_3:=n9_;clear n0_ n1_ n2_ n3_ n4_ n5_ n6_ n7_ n8_ n9_;clear hb hbox hg;have hnb103:=NB8_1.out;have hnc103:=NB1_8.out;have hnb104:=NB8_3.out;have hnc104:=NB3_8.out;have hcz105_0 : w102.cell? ⟨gb8,0,none⟩ = some (.int .i64 0):=(blk_cell BK8.out 0).trans rfl;have hcz105_1 : w102.cell? ⟨gb8,1,none⟩ = some (.int .i64 0):=(blk_cell BK8.out 1).trans rfl;have hcz105_2 : w102.cell? ⟨gb8,2,none⟩ = some (.int .i64 0):=(blk_cell BK8.out 2).trans rfl;have hcz105_3 : w102.cell? ⟨gb8,3,none⟩ = some (.int .i64 0):=(blk_cell BK8.out 3).trans rfl;have hfz105_0:=blk_frozen BK8.out 0;have hfz105_1:=blk_frozen BK8.out 1;have hfz105_2:=blk_frozen BK8.out 2;have hfz105_3:=blk_frozen BK8.out 3;have hnb106:=NB1_3.out;have hnc106:=NB3_1.out;have hcz107_0 : w102.cell? ⟨gb1,0,none⟩ = some (.slice A0_0 l0_0.length c0_0):=(blk_cell BK1.out 0).trans rfl;have hfz107_0:=blk_frozen BK1.out 0) | ((with_reducible refine gate_callee (f:=98) rfl ?_);refine goesL_ (some 25) rfl rfl Try.func98 (by kernel_rfl) rfl #[.agg #[.int .i64 ((rd_T75 l1 x19_2).f0),.int .i64 ((rd_T75 l1 x19_2).f1),.int .i64 ((rd_T75 l1 x19_2).f2),.int .i64 ((rd_T75 l1 x19_2).f3)],.agg #[.slice A0_0 l0_0.length c0_0]] rfl lm_ ?_;(with_reducible refine (impl_Line_argued.calls k2 ((rd_T75 l1 x19_2).f0) ((rd_T75 l1 x19_2).f1) ((rd_T75 l1 x19_2).f2) ((rd_T75 l1 x19_2).f3) _ _ l0_0 true _ ?side1 ?side2 A18.out).mono ?_);(case side1=>exact Kd.C_below HR0_0.out hbw_);(case side2=>exact HC0_0.out);rintro e w108 ⟨rfl,hb⟩;refine ⟨_,rfl,?_⟩;replace BK1:=a0_ (blk_below (g:=gb1) (o:=.cells #[.slice A0_0 l0_0.length c0_0] 25 (0,0)) (bff_ BK1.out) hb);replace BK3:=a0_ (blk_below (g:=gb3) (o:=.cells #[.int .i64 x4000_2,.int .i64 x4001_2,.int .i64 x4002_2,.int .i64 x4003_2] 75 (0,0)) (bff_ BK3.out) hb);replace BK8:=a0_ (blk_below (g:=gb8) (o:=.cells #[.int .i64 ((rd_T75 l1 x19_2).f0),.int .i64 ((rd_T75 l1 x19_2).f1),.int .i64 ((rd_T75 l1 x19_2).f2),.int .i64 ((rd_T75 l1 x19_2).f3)] 75 (0,0)) (by (with_reducible repeat (first | refine blk_drewN ?_ _ | refine blk_drew ?_ | refine blk_alloc ?_ _));refine blk_put (cs:=#[.int .i64 ((rd_T75 l1 x19_2).f0),.int .i64 ((rd_T75 l1 x19_2).f1),.int .i64 ((rd_T75 l1 x19_2).f2),.int .i64 0]) ?_ 3 _ rfl;(with_reducible repeat (first | refine blk_drewN ?_ _ | refine blk_drew ?_ | refine blk_alloc ?_ _));refine blk_put (cs:=#[.int .i64 ((rd_T75 l1 x19_2).f0),.int .i64 ((rd_T75 l1 x19_2).f1),.int .i64 0,.int .i64 0]) ?_ 2 _ rfl;(with_reducible repeat (first | refine blk_drewN ?_ _ | refine blk_drew ?_ | refine blk_alloc ?_ _));refine blk_put (cs:=#[.int .i64 ((rd_T75 l1 x19_2).f0),.int .i64 0,.int .i64 0,.int .i64 0]) ?_ 1 _ rfl;(with_reducible repeat (first | refine blk_drewN ?_ _ | refine blk_drew ?_ | refine blk_alloc ?_ _));refine blk_put (cs:=#[.int .i64 0,.int .i64 0,.int .i64 0,.int .i64 0]) ?_ 0 _ rfl;(with_reducible repeat (first | refine blk_drewN ?_ _ | refine blk_drew ?_ | refine blk_alloc ?_ _));exact BK8.out) hb);replace HB:=a0_ (below_step hbw_ hb);(try clear hb);have hcz109_0 : w108.cell? ⟨gb8,0,none⟩ = some (.int .i64 ((rd_T75 l1 x19_2).f0)):=(blk_cell BK8.out 0).trans rfl;have hcz109_1 : w108.cell? ⟨gb8,1,none⟩ = some (.int .i64 ((rd_T75 l1 x19_2).f1)):=(blk_cell BK8.out 1).trans rfl;have hcz109_2 : w108.cell? ⟨gb8,2,none⟩ = some (.int .i64 ((rd_T75 l1 x19_2).f2)):=(blk_cell BK8.out 2).trans rfl;have hcz109_3 : w108.cell? ⟨gb8,3,none⟩ = some (.int .i64 ((rd_T75 l1 x19_2).f3)):=(blk_cell BK8.out 3).trans rfl;have hfz109_0:=blk_frozen BK8.out 0;have hfz109_1:=blk_frozen BK8.out 1;have hfz109_2:=blk_frozen BK8.out 2;have hfz109_3:=blk_frozen BK8.out 3) | (go_at_call 75;(with_reducible refine (impl_within.calls ((rd_T75 l1 x19_2).f0) 0 5 true _ A20.out).mono ?_);rintro e w' ⟨rfl,⟨nd,rfl⟩⟩;have hcz110_0 : w108.cell? ⟨gb3,0,none⟩ = some (.int .i64 x4000_2):=(blk_cell BK3.out 0).trans rfl;have hcz110_1 : w108.cell? ⟨gb3,1,none⟩ = some (.int .i64 x4001_2):=(blk_cell BK3.out 1).trans rfl;have hcz110_2 : w108.cell? ⟨gb3,2,none⟩ = some (.int .i64 x4002_2):=(blk_cell BK3.out 2).trans rfl;have hcz110_3 : w108.cell? ⟨gb3,3,none⟩ = some (.int .i64 x4003_2):=(blk_cell BK3.out 3).trans rfl;have hfz110_0:=blk_frozen BK3.out 0;have hfz110_1:=blk_frozen BK3.out 1;have hfz110_2:=blk_frozen BK3.out 2;have hfz110_3:=blk_frozen BK3.out 3) | (go_at_call 99;(with_reducible refine (impl_Line_opens.calls x4000_2 x4001_2 x4002_2 x4003_2 false _ A85.out).mono ?_);rintro e w113 ⟨rfl,hb⟩;replace BK1:=kb_ BK1 hb;replace BK3:=kb_ BK3 hb;replace BK8:=kb_ BK8 hb;replace HB:=a0_ (below_step hbw_ hb);(try clear hb);have hcz114_0 : w113.cell? ⟨gb8,0,none⟩ = some (.int .i64 ((rd_T75 l1 x19_2).f0)):=(blk_cell BK8.out 0).trans rfl;have hcz114_1 : w113.cell? ⟨gb8,1,none⟩ = some (.int .i64 ((rd_T75 l1 x19_2).f1)):=(blk_cell BK8.out 1).trans rfl;have hcz114_2 : w113.cell? ⟨gb8,2,none⟩ = some (.int .i64 ((rd_T75 l1 x19_2).f2)):=(blk_cell BK8.out 2).trans rfl;have hcz114_3 : w113.cell? ⟨gb8,3,none⟩ = some (.int .i64 ((rd_T75 l1 x19_2).f3)):=(blk_cell BK8.out 3).trans rfl;have hfz114_0:=blk_frozen BK8.out 0;have hfz114_1:=blk_frozen BK8.out 1;have hfz114_2:=blk_frozen BK8.out 2;have hfz114_3:=blk_frozen BK8.out 3;have hcz115_0 : w113.cell? ⟨gb3,0,none⟩ = some (.int .i64 x4000_2):=(blk_cell BK3.out 0).trans rfl;have hcz115_1 : w113.cell? ⟨gb3,1,none⟩ = some (.int .i64 x4001_2):=(blk_cell BK3.out 1).trans rfl;have hcz115_2 : w113.cell? ⟨gb3,2,none⟩ = some (.int .i64 x4002_2):=(blk_cell BK3.out 2).trans rfl;have hcz115_3 : w113.cell? ⟨gb3,3,none⟩ = some (.int .i64 x4003_2):=(blk_cell BK3.out 3).trans rfl;have hfz115_0:=blk_frozen BK3.out 0;have hfz115_1:=blk_frozen BK3.out 1;have hfz115_2:=blk_frozen BK3.out 2;have hfz115_3:=blk_frozen BK3.out 3))
              go_ret
              exact ⟨by first | rfl | (simp [errW_none,errW_some] <;> rfl) | (simp [*,errW_none,errW_some] <;> rfl),hbw_⟩
             ·rw [if_neg c101] at H
              have c101b0 : decide (x4000_2 < ((rd_T75 l1 x19_2).f0)) = false:=decide_eq_false c101
              clear c101
              have H':=a0_ H
              clear H
              have p7 : 0 ≤ (x19_2 : Int):=of_decide_eq_true (by first | (with_reducible assumption) | assumption)
              have q7 : x19_2 < (l1.length : Int):=of_decide_eq_true (by first | (with_reducible assumption) | assumption)
              obtain ⟨ad7,e7,hx7_0,hx7_1,hx7_2,hx7_3⟩:=at_T75 HR1.out x19_2 p7 q7
              cases e7
              replace hx7_0:=(HB.out.cell (World.block_lt_of_cell? w _ hx7_0)).trans hx7_0
              replace hx7_1:=(HB.out.cell (World.block_lt_of_cell? w _ hx7_1)).trans hx7_1
              replace hx7_2:=(HB.out.cell (World.block_lt_of_cell? w _ hx7_2)).trans hx7_2
              replace hx7_3:=(HB.out.cell (World.block_lt_of_cell? w _ hx7_3)).trans hx7_3
              replace p7:=eq_true p7
              replace q7:=eq_true q7
              go_wp2_with (first | ((with_reducible refine gate_dst (N:=7) rfl ?_);(try (refine gate_guard (by rfl) ?_;dsimp only));refine box_event ?hg (N:=7) ?hd (cs:=#[.int .i64 0,.int .i64 0,.int .i64 0,.int .i64 0]) (t:=75) ?hr ?_;(case hd=>rfl);(case hg=>rfl);(case hr=>first | (go_simp;done) | (go_simp;rfl));intro gb8 hg w116 hbox hb;have n0_:=kb_ BK1 hb;have n1_:=kb_ BK3 hb;have n2_:=a0_ (below_step hbw_ hb);have n3_:=a0_ (hbox);have n4_:=a0_ ((by rw [hg];exact (below_size hbw_) : w.heap.size ≤ gb8));have n5_:=a0_ ((by rw [hg];exact (below_size hbw_) : w.heap.size ≤ gb8));have n6_:=a0_ ((by rw [hg];exact Nat.ne_of_lt (blk_lt (bb_ BK1.out)) : gb1 ≠ gb8));have n7_:=a0_ ((by rw [hg];exact Nat.ne_of_gt (blk_lt (bb_ BK1.out)) : gb8 ≠ gb1));have n8_:=a0_ ((by rw [hg];exact Nat.ne_of_lt (blk_lt (bb_ BK3.out)) : gb3 ≠ gb8));have n9_:=a0_ ((by rw [hg];exact Nat.ne_of_gt (blk_lt (bb_ BK3.out)) : gb8 ≠ gb3));clear BK1 BK3 HB;have BK1:=n0_;have BK3:=n1_;have HB:=n2_;have BK8:=n3_;have GW8:=n4_;have GE8:=n5_;have NB1_8:=n6_;have NB8_1:=n7_;have NB3_8:=n8_;have NB8_3:=n9_;clear n0_ n1_ n2_ n3_ n4_ n5_ n6_ n7_ n8_ n9_;clear hb hbox hg;have hnb117:=NB8_1.out;have hnc117:=NB1_8.out;have hnb118:=NB8_3.out;have hnc118:=NB3_8.out;have hcz119_0 : w116.cell? ⟨gb8,0,none⟩ = some (.int .i64 0):=(blk_cell BK8.out 0).trans rfl;have hcz119_1 : w116.cell? ⟨gb8,1,none⟩ = some (.int .i64 0):=(blk_cell BK8.out 1).trans rfl;have hcz119_2 : w116.cell? ⟨gb8,2,none⟩ = some (.int .i64 0):=(blk_cell BK8.out 2).trans rfl;have hcz119_3 : w116.cell? ⟨gb8,3,none⟩ = some (.int .i64 0):=(blk_cell BK8.out 3).trans rfl;have hfz119_0:=blk_frozen BK8.out 0;have hfz119_1:=blk_frozen BK8.out 1;have hfz119_2:=blk_frozen BK8.out 2;have hfz119_3:=blk_frozen BK8.out 3;have hnb120:=NB1_3.out;have hnc120:=NB3_1.out;have hcz121_0 : w116.cell? ⟨gb1,0,none⟩ = some (.slice A0_0 l0_0.length c0_0):=(blk_cell BK1.out 0).trans rfl;have hfz121_0:=blk_frozen BK1.out 0) | ((with_reducible refine gate_callee (f:=98) rfl ?_);refine goesL_ (some 25) rfl rfl Try.func98 (by kernel_rfl) rfl #[.agg #[.int .i64 ((rd_T75 l1 x19_2).f0),.int .i64 ((rd_T75 l1 x19_2).f1),.int .i64 ((rd_T75 l1 x19_2).f2),.int .i64 ((rd_T75 l1 x19_2).f3)],.agg #[.slice A0_0 l0_0.length c0_0]] rfl lm_ ?_;(with_reducible refine (impl_Line_argued.calls k2 ((rd_T75 l1 x19_2).f0) ((rd_T75 l1 x19_2).f1) ((rd_T75 l1 x19_2).f2) ((rd_T75 l1 x19_2).f3) _ _ l0_0 true _ ?side1 ?side2 A18.out).mono ?_);(case side1=>exact Kd.C_below HR0_0.out hbw_);(case side2=>exact HC0_0.out);rintro e w122 ⟨rfl,hb⟩;refine ⟨_,rfl,?_⟩;replace BK1:=a0_ (blk_below (g:=gb1) (o:=.cells #[.slice A0_0 l0_0.length c0_0] 25 (0,0)) (bff_ BK1.out) hb);replace BK3:=a0_ (blk_below (g:=gb3) (o:=.cells #[.int .i64 x4000_2,.int .i64 x4001_2,.int .i64 x4002_2,.int .i64 x4003_2] 75 (0,0)) (bff_ BK3.out) hb);replace BK8:=a0_ (blk_below (g:=gb8) (o:=.cells #[.int .i64 ((rd_T75 l1 x19_2).f0),.int .i64 ((rd_T75 l1 x19_2).f1),.int .i64 ((rd_T75 l1 x19_2).f2),.int .i64 ((rd_T75 l1 x19_2).f3)] 75 (0,0)) (by (with_reducible repeat (first | refine blk_drewN ?_ _ | refine blk_drew ?_ | refine blk_alloc ?_ _));refine blk_put (cs:=#[.int .i64 ((rd_T75 l1 x19_2).f0),.int .i64 ((rd_T75 l1 x19_2).f1),.int .i64 ((rd_T75 l1 x19_2).f2),.int .i64 0]) ?_ 3 _ rfl;(with_reducible repeat (first | refine blk_drewN ?_ _ | refine blk_drew ?_ | refine blk_alloc ?_ _));refine blk_put (cs:=#[.int .i64 ((rd_T75 l1 x19_2).f0),.int .i64 ((rd_T75 l1 x19_2).f1),.int .i64 0,.int .i64 0]) ?_ 2 _ rfl;(with_reducible repeat (first | refine blk_drewN ?_ _ | refine blk_drew ?_ | refine blk_alloc ?_ _));refine blk_put (cs:=#[.int .i64 ((rd_T75 l1 x19_2).f0),.int .i64 0,.int .i64 0,.int .i64 0]) ?_ 1 _ rfl;(with_reducible repeat (first | refine blk_drewN ?_ _ | refine blk_drew ?_ | refine blk_alloc ?_ _));refine blk_put (cs:=#[.int .i64 0,.int .i64 0,.int .i64 0,.int .i64 0]) ?_ 0 _ rfl;(with_reducible repeat (first | refine blk_drewN ?_ _ | refine blk_drew ?_ | refine blk_alloc ?_ _));exact BK8.out) hb);replace HB:=a0_ (below_step hbw_ hb);(try clear hb);have hcz123_0 : w122.cell? ⟨gb8,0,none⟩ = some (.int .i64 ((rd_T75 l1 x19_2).f0)):=(blk_cell BK8.out 0).trans rfl;have hcz123_1 : w122.cell? ⟨gb8,1,none⟩ = some (.int .i64 ((rd_T75 l1 x19_2).f1)):=(blk_cell BK8.out 1).trans rfl;have hcz123_2 : w122.cell? ⟨gb8,2,none⟩ = some (.int .i64 ((rd_T75 l1 x19_2).f2)):=(blk_cell BK8.out 2).trans rfl;have hcz123_3 : w122.cell? ⟨gb8,3,none⟩ = some (.int .i64 ((rd_T75 l1 x19_2).f3)):=(blk_cell BK8.out 3).trans rfl;have hfz123_0:=blk_frozen BK8.out 0;have hfz123_1:=blk_frozen BK8.out 1;have hfz123_2:=blk_frozen BK8.out 2;have hfz123_3:=blk_frozen BK8.out 3) | (go_at_call 75;(with_reducible refine (impl_within.calls ((rd_T75 l1 x19_2).f0) 0 5 true _ A20.out).mono ?_);rintro e w' ⟨rfl,⟨nd,rfl⟩⟩;(try (rw [drewN_self w122];generalize hq_ : World.drewN w122 _ = w122;have n0_ : Aside0 (w122.heap[gb1]? = some (.cells #[.slice A0_0 l0_0.length c0_0] 25 (0,0))):=⟨by rw [← hq_];exact (bb_ BK1.out)⟩;have n1_ : Aside0 (w122.heap[gb3]? = some (.cells #[.int .i64 x4000_2,.int .i64 x4001_2,.int .i64 x4002_2,.int .i64 x4003_2] 75 (0,0))):=⟨by rw [← hq_];exact (bb_ BK3.out)⟩;have n2_ : Aside0 (w122.heap[gb8]? = some (.cells #[.int .i64 ((rd_T75 l1 x19_2).f0),.int .i64 ((rd_T75 l1 x19_2).f1),.int .i64 ((rd_T75 l1 x19_2).f2),.int .i64 ((rd_T75 l1 x19_2).f3)] 75 (0,0))):=⟨by rw [← hq_];exact (bb_ BK8.out)⟩;have n3_ : Aside0 (Below w.heap.size w w122):=⟨by rw [← hq_];exact hbw_⟩;clear BK1 BK3 BK8 HB hq_;have BK1:=n0_;have BK3:=n1_;have BK8:=n2_;have HB:=n3_;clear n0_ n1_ n2_ n3_));have hcz124_0 : w122.cell? ⟨gb3,0,none⟩ = some (.int .i64 x4000_2):=(blk_cell BK3.out 0).trans rfl;have hcz124_1 : w122.cell? ⟨gb3,1,none⟩ = some (.int .i64 x4001_2):=(blk_cell BK3.out 1).trans rfl;have hcz124_2 : w122.cell? ⟨gb3,2,none⟩ = some (.int .i64 x4002_2):=(blk_cell BK3.out 2).trans rfl;have hcz124_3 : w122.cell? ⟨gb3,3,none⟩ = some (.int .i64 x4003_2):=(blk_cell BK3.out 3).trans rfl;have hfz124_0:=blk_frozen BK3.out 0;have hfz124_1:=blk_frozen BK3.out 1;have hfz124_2:=blk_frozen BK3.out 2;have hfz124_3:=blk_frozen BK3.out 3) | (go_at_call 99;(with_reducible refine (impl_Line_opens.calls x4000_2 x4001_2 x4002_2 x4003_2 false _ A85.out).mono ?_);rintro e w127 ⟨rfl,hb⟩;replace BK1:=kb_ BK1 hb;replace BK3:=kb_ BK3 hb;replace BK8:=kb_ BK8 hb;replace HB:=a0_ (below_step hbw_ hb);(try clear hb);have hcz128_0 : w127.cell? ⟨gb8,0,none⟩ = some (.int .i64 ((rd_T75 l1 x19_2).f0)):=(blk_cell BK8.out 0).trans rfl;have hcz128_1 : w127.cell? ⟨gb8,1,none⟩ = some (.int .i64 ((rd_T75 l1 x19_2).f1)):=(blk_cell BK8.out 1).trans rfl;have hcz128_2 : w127.cell? ⟨gb8,2,none⟩ = some (.int .i64 ((rd_T75 l1 x19_2).f2)):=(blk_cell BK8.out 2).trans rfl;have hcz128_3 : w127.cell? ⟨gb8,3,none⟩ = some (.int .i64 ((rd_T75 l1 x19_2).f3)):=(blk_cell BK8.out 3).trans rfl;have hfz128_0:=blk_frozen BK8.out 0;have hfz128_1:=blk_frozen BK8.out 1;have hfz128_2:=blk_frozen BK8.out 2;have hfz128_3:=blk_frozen BK8.out 3;have hcz129_0 : w127.cell? ⟨gb3,0,none⟩ = some (.int .i64 x4000_2):=(blk_cell BK3.out 0).trans rfl;have hcz129_1 : w127.cell? ⟨gb3,1,none⟩ = some (.int .i64 x4001_2):=(blk_cell BK3.out 1).trans rfl;have hcz129_2 : w127.cell? ⟨gb3,2,none⟩ = some (.int .i64 x4002_2):=(blk_cell BK3.out 2).trans rfl;have hcz129_3 : w127.cell? ⟨gb3,3,none⟩ = some (.int .i64 x4003_2):=(blk_cell BK3.out 3).trans rfl;have hfz129_0:=blk_frozen BK3.out 0;have hfz129_1:=blk_frozen BK3.out 1;have hfz129_2:=blk_frozen BK3.out 2;have hfz129_3:=blk_frozen BK3.out 3))
              go_roundg k2
              case measure=>have:=HJ2.out;have:=HK2.out;omega
              case rel=>exact ⟨(wrap64 (x19_2 + 1)),((rd_T75 l1 x19_2).f0),((rd_T75 l1 x19_2).f1),((rd_T75 l1 x19_2).f2),((rd_T75 l1 x19_2).f3),(by first | rfl | (simp;done) | (simp [*];done)),H',⟨by have:=HJ2.out;have:=HK2.out;omega⟩,⟨by (with_reducible repeat (first | refine blk_drewN ?_ _ | refine blk_drew ?_ | refine blk_alloc ?_ _));refine blk_far ?_ NB1_3.out _;(with_reducible repeat (first | refine blk_drewN ?_ _ | refine blk_drew ?_ | refine blk_alloc ?_ _));refine blk_far ?_ NB1_3.out _;(with_reducible repeat (first | refine blk_drewN ?_ _ | refine blk_drew ?_ | refine blk_alloc ?_ _));refine blk_far ?_ NB1_3.out _;(with_reducible repeat (first | refine blk_drewN ?_ _ | refine blk_drew ?_ | refine blk_alloc ?_ _));refine blk_far ?_ NB1_3.out _;(with_reducible repeat (first | refine blk_drewN ?_ _ | refine blk_drew ?_ | refine blk_alloc ?_ _));exact BK1.out⟩,⟨by (with_reducible repeat (first | refine blk_drewN ?_ _ | refine blk_drew ?_ | refine blk_alloc ?_ _));refine blk_put (cs:=#[.int .i64 ((rd_T75 l1 x19_2).f0),.int .i64 ((rd_T75 l1 x19_2).f1),.int .i64 ((rd_T75 l1 x19_2).f2),.int .i64 x4003_2]) ?_ 3 _ rfl;(with_reducible repeat (first | refine blk_drewN ?_ _ | refine blk_drew ?_ | refine blk_alloc ?_ _));refine blk_put (cs:=#[.int .i64 ((rd_T75 l1 x19_2).f0),.int .i64 ((rd_T75 l1 x19_2).f1),.int .i64 x4002_2,.int .i64 x4003_2]) ?_ 2 _ rfl;(with_reducible repeat (first | refine blk_drewN ?_ _ | refine blk_drew ?_ | refine blk_alloc ?_ _));refine blk_put (cs:=#[.int .i64 ((rd_T75 l1 x19_2).f0),.int .i64 x4001_2,.int .i64 x4002_2,.int .i64 x4003_2]) ?_ 1 _ rfl;(with_reducible repeat (first | refine blk_drewN ?_ _ | refine blk_drew ?_ | refine blk_alloc ?_ _));refine blk_put (cs:=#[.int .i64 x4000_2,.int .i64 x4001_2,.int .i64 x4002_2,.int .i64 x4003_2]) ?_ 0 _ rfl;(with_reducible repeat (first | refine blk_drewN ?_ _ | refine blk_drew ?_ | refine blk_alloc ?_ _));exact BK3.out⟩,⟨hbw_⟩⟩
          ·replace c21:=Bool.eq_false_iff.mpr c21
           subst c21
           have H1 : (some false) = some r:=by rw [if_neg (show ¬ (false = true) by decide)] at H;exact H
           clear H
           have H:=H1
           clear H1
           obtain rfl:=Option.some.inj H
           have p7 : 0 ≤ (x19_2 : Int):=of_decide_eq_true (by first | (with_reducible assumption) | assumption)
           have q7 : x19_2 < (l1.length : Int):=of_decide_eq_true (by first | (with_reducible assumption) | assumption)
           obtain ⟨ad7,e7,hx7_0,hx7_1,hx7_2,hx7_3⟩:=at_T75 HR1.out x19_2 p7 q7
           cases e7
           replace hx7_0:=(HB.out.cell (World.block_lt_of_cell? w _ hx7_0)).trans hx7_0
           replace hx7_1:=(HB.out.cell (World.block_lt_of_cell? w _ hx7_1)).trans hx7_1
           replace hx7_2:=(HB.out.cell (World.block_lt_of_cell? w _ hx7_2)).trans hx7_2
           replace hx7_3:=(HB.out.cell (World.block_lt_of_cell? w _ hx7_3)).trans hx7_3
           replace p7:=eq_true p7
           replace q7:=eq_true q7
           go_wp2_with (first | ((with_reducible refine gate_dst (N:=7) rfl ?_);(try (refine gate_guard (by rfl) ?_;dsimp only));refine box_event ?hg (N:=7) ?hd (cs:=#[.int .i64 0,.int .i64 0,.int .i64 0,.int .i64 0]) (t:=75) ?hr ?_;(case hd=>rfl);(case hg=>rfl);(case hr=>first | (go_simp;done) | (go_simp;rfl));intro gb8 hg w130 hbox hb;have n0_:=kb_ BK1 hb;have n1_:=kb_ BK3 hb;have n2_:=a0_ (below_step hbw_ hb);have n3_:=a0_ (hbox);have n4_:=a0_ ((by rw [hg];exact (below_size hbw_) : w.heap.size ≤ gb8));have n5_:=a0_ ((by rw [hg];exact (below_size hbw_) : w.heap.size ≤ gb8));have n6_:=a0_ ((by rw [hg];exact Nat.ne_of_lt (blk_lt (bb_ BK1.out)) : gb1 ≠ gb8));have n7_:=a0_ ((by rw [hg];exact Nat.ne_of_gt (blk_lt (bb_ BK1.out)) : gb8 ≠ gb1));have n8_:=a0_ ((by rw [hg];exact Nat.ne_of_lt (blk_lt (bb_ BK3.out)) : gb3 ≠ gb8));have n9_:=a0_ ((by rw [hg];exact Nat.ne_of_gt (blk_lt (bb_ BK3.out)) : gb8 ≠ gb3));clear BK1 BK3 HB;have BK1:=n0_;have BK3:=n1_;have HB:=n2_;have BK8:=n3_;have GW8:=n4_;have GE8:=n5_;have NB1_8:=n6_;have NB8_1:=n7_;have NB3_8:=n8_;have NB8_3:=n9_;clear n0_ n1_ n2_ n3_ n4_ n5_ n6_ n7_ n8_ n9_;clear hb hbox hg;have hnb131:=NB8_1.out;have hnc131:=NB1_8.out;have hnb132:=NB8_3.out;have hnc132:=NB3_8.out;have hcz133_0 : w130.cell? ⟨gb8,0,none⟩ = some (.int .i64 0):=(blk_cell BK8.out 0).trans rfl;have hcz133_1 : w130.cell? ⟨gb8,1,none⟩ = some (.int .i64 0):=(blk_cell BK8.out 1).trans rfl;have hcz133_2 : w130.cell? ⟨gb8,2,none⟩ = some (.int .i64 0):=(blk_cell BK8.out 2).trans rfl;have hcz133_3 : w130.cell? ⟨gb8,3,none⟩ = some (.int .i64 0):=(blk_cell BK8.out 3).trans rfl;have hfz133_0:=blk_frozen BK8.out 0;have hfz133_1:=blk_frozen BK8.out 1;have hfz133_2:=blk_frozen BK8.out 2;have hfz133_3:=blk_frozen BK8.out 3;have hnb134:=NB1_3.out;have hnc134:=NB3_1.out;have hcz135_0 : w130.cell? ⟨gb1,0,none⟩ = some (.slice A0_0 l0_0.length c0_0):=(blk_cell BK1.out 0).trans rfl;have hfz135_0:=blk_frozen BK1.out 0) | ((with_reducible refine gate_callee (f:=98) rfl ?_);refine goesL_ (some 25) rfl rfl Try.func98 (by kernel_rfl) rfl #[.agg #[.int .i64 ((rd_T75 l1 x19_2).f0),.int .i64 ((rd_T75 l1 x19_2).f1),.int .i64 ((rd_T75 l1 x19_2).f2),.int .i64 ((rd_T75 l1 x19_2).f3)],.agg #[.slice A0_0 l0_0.length c0_0]] rfl lm_ ?_;(with_reducible refine (impl_Line_argued.calls k2 ((rd_T75 l1 x19_2).f0) ((rd_T75 l1 x19_2).f1) ((rd_T75 l1 x19_2).f2) ((rd_T75 l1 x19_2).f3) _ _ l0_0 true _ ?side1 ?side2 A18.out).mono ?_);(case side1=>exact Kd.C_below HR0_0.out hbw_);(case side2=>exact HC0_0.out);rintro e w136 ⟨rfl,hb⟩;refine ⟨_,rfl,?_⟩;replace BK1:=a0_ (blk_below (g:=gb1) (o:=.cells #[.slice A0_0 l0_0.length c0_0] 25 (0,0)) (bff_ BK1.out) hb);replace BK3:=a0_ (blk_below (g:=gb3) (o:=.cells #[.int .i64 x4000_2,.int .i64 x4001_2,.int .i64 x4002_2,.int .i64 x4003_2] 75 (0,0)) (bff_ BK3.out) hb);replace BK8:=a0_ (blk_below (g:=gb8) (o:=.cells #[.int .i64 ((rd_T75 l1 x19_2).f0),.int .i64 ((rd_T75 l1 x19_2).f1),.int .i64 ((rd_T75 l1 x19_2).f2),.int .i64 ((rd_T75 l1 x19_2).f3)] 75 (0,0)) (by (with_reducible repeat (first | refine blk_drewN ?_ _ | refine blk_drew ?_ | refine blk_alloc ?_ _));refine blk_put (cs:=#[.int .i64 ((rd_T75 l1 x19_2).f0),.int .i64 ((rd_T75 l1 x19_2).f1),.int .i64 ((rd_T75 l1 x19_2).f2),.int .i64 0]) ?_ 3 _ rfl;(with_reducible repeat (first | refine blk_drewN ?_ _ | refine blk_drew ?_ | refine blk_alloc ?_ _));refine blk_put (cs:=#[.int .i64 ((rd_T75 l1 x19_2).f0),.int .i64 ((rd_T75 l1 x19_2).f1),.int .i64 0,.int .i64 0]) ?_ 2 _ rfl;(with_reducible repeat (first | refine blk_drewN ?_ _ | refine blk_drew ?_ | refine blk_alloc ?_ _));refine blk_put (cs:=#[.int .i64 ((rd_T75 l1 x19_2).f0),.int .i64 0,.int .i64 0,.int .i64 0]) ?_ 1 _ rfl;(with_reducible repeat (first | refine blk_drewN ?_ _ | refine blk_drew ?_ | refine blk_alloc ?_ _));refine blk_put (cs:=#[.int .i64 0,.int .i64 0,.int .i64 0,.int .i64 0]) ?_ 0 _ rfl;(with_reducible repeat (first | refine blk_drewN ?_ _ | refine blk_drew ?_ | refine blk_alloc ?_ _));exact BK8.out) hb);replace HB:=a0_ (below_step hbw_ hb);(try clear hb);have hcz137_0 : w136.cell? ⟨gb8,0,none⟩ = some (.int .i64 ((rd_T75 l1 x19_2).f0)):=(blk_cell BK8.out 0).trans rfl;have hcz137_1 : w136.cell? ⟨gb8,1,none⟩ = some (.int .i64 ((rd_T75 l1 x19_2).f1)):=(blk_cell BK8.out 1).trans rfl;have hcz137_2 : w136.cell? ⟨gb8,2,none⟩ = some (.int .i64 ((rd_T75 l1 x19_2).f2)):=(blk_cell BK8.out 2).trans rfl;have hcz137_3 : w136.cell? ⟨gb8,3,none⟩ = some (.int .i64 ((rd_T75 l1 x19_2).f3)):=(blk_cell BK8.out 3).trans rfl;have hfz137_0:=blk_frozen BK8.out 0;have hfz137_1:=blk_frozen BK8.out 1;have hfz137_2:=blk_frozen BK8.out 2;have hfz137_3:=blk_frozen BK8.out 3) | (go_at_call 75;(with_reducible refine (impl_within.calls ((rd_T75 l1 x19_2).f0) 0 5 false _ A20.out).mono ?_);rintro e w' ⟨rfl,⟨nd,rfl⟩⟩))
           go_ret
           exact ⟨by first | rfl | (simp [errW_none,errW_some] <;> rfl) | (simp [*,errW_none,errW_some] <;> rfl),hbw_⟩
         ·replace c19:=Bool.eq_false_iff.mpr c19
          subst c19
          have H1 : (some false) = some r:=by rw [if_neg (show ¬ (false = true) by decide)] at H;exact H
          clear H
          have H:=H1
          clear H1
          obtain rfl:=Option.some.inj H
          have p7 : 0 ≤ (x19_2 : Int):=of_decide_eq_true (by first | (with_reducible assumption) | assumption)
          have q7 : x19_2 < (l1.length : Int):=of_decide_eq_true (by first | (with_reducible assumption) | assumption)
          obtain ⟨ad7,e7,hx7_0,hx7_1,hx7_2,hx7_3⟩:=at_T75 HR1.out x19_2 p7 q7
          cases e7
          replace hx7_0:=(HB.out.cell (World.block_lt_of_cell? w _ hx7_0)).trans hx7_0
          replace hx7_1:=(HB.out.cell (World.block_lt_of_cell? w _ hx7_1)).trans hx7_1
          replace hx7_2:=(HB.out.cell (World.block_lt_of_cell? w _ hx7_2)).trans hx7_2
          replace hx7_3:=(HB.out.cell (World.block_lt_of_cell? w _ hx7_3)).trans hx7_3
          replace p7:=eq_true p7
          replace q7:=eq_true q7
          go_wp2_with (first | ((with_reducible refine gate_dst (N:=7) rfl ?_);(try (refine gate_guard (by rfl) ?_;dsimp only));refine box_event ?hg (N:=7) ?hd (cs:=#[.int .i64 0,.int .i64 0,.int .i64 0,.int .i64 0]) (t:=75) ?hr ?_;(case hd=>rfl);(case hg=>rfl);(case hr=>first | (go_simp;done) | (go_simp;rfl));intro gb8 hg w138 hbox hb;have n0_:=kb_ BK1 hb;have n1_:=kb_ BK3 hb;have n2_:=a0_ (below_step hbw_ hb);have n3_:=a0_ (hbox);have n4_:=a0_ ((by rw [hg];exact (below_size hbw_) : w.heap.size ≤ gb8));have n5_:=a0_ ((by rw [hg];exact (below_size hbw_) : w.heap.size ≤ gb8));have n6_:=a0_ ((by rw [hg];exact Nat.ne_of_lt (blk_lt (bb_ BK1.out)) : gb1 ≠ gb8));have n7_:=a0_ ((by rw [hg];exact Nat.ne_of_gt (blk_lt (bb_ BK1.out)) : gb8 ≠ gb1));have n8_:=a0_ ((by rw [hg];exact Nat.ne_of_lt (blk_lt (bb_ BK3.out)) : gb3 ≠ gb8));have n9_:=a0_ ((by rw [hg];exact Nat.ne_of_gt (blk_lt (bb_ BK3.out)) : gb8 ≠ gb3));clear BK1 BK3 HB;have BK1:=n0_;have BK3:=n1_;have HB:=n2_;have BK8:=n3_;have GW8:=n4_;have GE8:=n5_;have NB1_8:=n6_;have NB8_1:=n7_;have NB3_8:=n8_;have NB8_3:=n9_;clear n0_ n1_ n2_ n3_ n4_ n5_ n6_ n7_ n8_ n9_;clear hb hbox hg;have hnb139:=NB8_1.out;have hnc139:=NB1_8.out;have hnb140:=NB8_3.out;have hnc140:=NB3_8.out;have hcz141_0 : w138.cell? ⟨gb8,0,none⟩ = some (.int .i64 0):=(blk_cell BK8.out 0).trans rfl;have hcz141_1 : w138.cell? ⟨gb8,1,none⟩ = some (.int .i64 0):=(blk_cell BK8.out 1).trans rfl;have hcz141_2 : w138.cell? ⟨gb8,2,none⟩ = some (.int .i64 0):=(blk_cell BK8.out 2).trans rfl;have hcz141_3 : w138.cell? ⟨gb8,3,none⟩ = some (.int .i64 0):=(blk_cell BK8.out 3).trans rfl;have hfz141_0:=blk_frozen BK8.out 0;have hfz141_1:=blk_frozen BK8.out 1;have hfz141_2:=blk_frozen BK8.out 2;have hfz141_3:=blk_frozen BK8.out 3;have hnb142:=NB1_3.out;have hnc142:=NB3_1.out;have hcz143_0 : w138.cell? ⟨gb1,0,none⟩ = some (.slice A0_0 l0_0.length c0_0):=(blk_cell BK1.out 0).trans rfl;have hfz143_0:=blk_frozen BK1.out 0) | ((with_reducible refine gate_callee (f:=98) rfl ?_);refine goesL_ (some 25) rfl rfl Try.func98 (by kernel_rfl) rfl #[.agg #[.int .i64 ((rd_T75 l1 x19_2).f0),.int .i64 ((rd_T75 l1 x19_2).f1),.int .i64 ((rd_T75 l1 x19_2).f2),.int .i64 ((rd_T75 l1 x19_2).f3)],.agg #[.slice A0_0 l0_0.length c0_0]] rfl lm_ ?_;(with_reducible refine (impl_Line_argued.calls k2 ((rd_T75 l1 x19_2).f0) ((rd_T75 l1 x19_2).f1) ((rd_T75 l1 x19_2).f2) ((rd_T75 l1 x19_2).f3) _ _ l0_0 false _ ?side1 ?side2 A18.out).mono ?_);(case side1=>exact Kd.C_below HR0_0.out hbw_);(case side2=>exact HC0_0.out);rintro e w144 ⟨rfl,hb⟩;refine ⟨_,rfl,?_⟩;replace BK1:=a0_ (blk_below (g:=gb1) (o:=.cells #[.slice A0_0 l0_0.length c0_0] 25 (0,0)) (bff_ BK1.out) hb);replace BK3:=a0_ (blk_below (g:=gb3) (o:=.cells #[.int .i64 x4000_2,.int .i64 x4001_2,.int .i64 x4002_2,.int .i64 x4003_2] 75 (0,0)) (bff_ BK3.out) hb);replace BK8:=a0_ (blk_below (g:=gb8) (o:=.cells #[.int .i64 ((rd_T75 l1 x19_2).f0),.int .i64 ((rd_T75 l1 x19_2).f1),.int .i64 ((rd_T75 l1 x19_2).f2),.int .i64 ((rd_T75 l1 x19_2).f3)] 75 (0,0)) (by (with_reducible repeat (first | refine blk_drewN ?_ _ | refine blk_drew ?_ | refine blk_alloc ?_ _));refine blk_put (cs:=#[.int .i64 ((rd_T75 l1 x19_2).f0),.int .i64 ((rd_T75 l1 x19_2).f1),.int .i64 ((rd_T75 l1 x19_2).f2),.int .i64 0]) ?_ 3 _ rfl;(with_reducible repeat (first | refine blk_drewN ?_ _ | refine blk_drew ?_ | refine blk_alloc ?_ _));refine blk_put (cs:=#[.int .i64 ((rd_T75 l1 x19_2).f0),.int .i64 ((rd_T75 l1 x19_2).f1),.int .i64 0,.int .i64 0]) ?_ 2 _ rfl;(with_reducible repeat (first | refine blk_drewN ?_ _ | refine blk_drew ?_ | refine blk_alloc ?_ _));refine blk_put (cs:=#[.int .i64 ((rd_T75 l1 x19_2).f0),.int .i64 0,.int .i64 0,.int .i64 0]) ?_ 1 _ rfl;(with_reducible repeat (first | refine blk_drewN ?_ _ | refine blk_drew ?_ | refine blk_alloc ?_ _));refine blk_put (cs:=#[.int .i64 0,.int .i64 0,.int .i64 0,.int .i64 0]) ?_ 0 _ rfl;(with_reducible repeat (first | refine blk_drewN ?_ _ | refine blk_drew ?_ | refine blk_alloc ?_ _));exact BK8.out) hb);replace HB:=a0_ (below_step hbw_ hb);(try clear hb);(try clear hb2);(try clear hk);(try clear hi)))
          go_ret
          exact ⟨by first | rfl | (simp [errW_none,errW_some] <;> rfl) | (simp [*,errW_none,errW_some] <;> rfl),hbw_⟩
        ·rw [if_neg c17] at H
         exact absurd H (by simp)
       ·rw [if_neg c16] at H
        exact absurd H (by simp)
      ·rw [if_neg c15] at H
       have c15b0 : decide (x19_2 < (l1.length : Int)) = false:=decide_eq_false c15
       clear c15
       by_cases c145 : (l1.length : Int) = 0
       ·rw [if_pos c145] at H
        have c145b0 : ((l1.length : Int) == 0) = true:=beq_iff_eq.mpr c145
        have c145b1 : ((l1.length : Int) != 0) = false:=bne_eq_false_iff_eq.mpr c145
        clear c145
        replace H:=Option.bind_eq_some_iff.mp H
        obtain ⟨t4,A1460,H⟩:=H
        replace H : (some t4) = some r:=H
        have A146:=a0_ A1460
        clear A1460
        obtain rfl:=Option.some.inj H
        go_wp2_with (first | (go_at_call 100;(with_reducible refine (impl_blockOk.calls k2 _ _ l1 0 (l1.length : Int) false t4 _ ?side1 ?side2 A146.out).mono ?_);(case side1=>exact cc_ (Kd.C_below HR1.out HB.out));(case side2=>exact HC1.out);rintro e w147 ⟨rfl,hb⟩;replace BK1:=kb_ BK1 hb;replace BK3:=kb_ BK3 hb;replace HB:=a0_ (below_step hbw_ hb);(try clear hb);(try clear hb2);(try clear hk);(try clear hi)))
        go_ret
        exact ⟨by first | rfl | (simp [errW_none,errW_some] <;> rfl) | (simp [*,errW_none,errW_some] <;> rfl),hbw_⟩
       ·rw [if_neg c145] at H
        have c145b0 : ((l1.length : Int) == 0) = false:=beq_eq_false_iff_ne.mpr c145
        have c145b1 : ((l1.length : Int) != 0) = true:=bne_iff_ne.mpr c145
        have c145b2 : ¬ (l1 = []):=fun h_=>c145 (by rw [h_];rfl)
        replace H:=Option.bind_eq_some_iff.mp H
        obtain ⟨t5,A1480,H⟩:=H
        try dsimp only at H
        have A148:=a0_ A1480
        clear A1480
        by_cases c149 : t5 = true
        ·subst c149
         have H1 : (some false) = some r:=by rw [if_pos rfl] at H;exact H
         clear H
         have H:=H1
         clear H1
         obtain rfl:=Option.some.inj H
         have hnb150:=NB3_1.out
         have hnc150:=NB1_3.out
         have hcz151_0 : wr.cell? ⟨gb3,0,none⟩ = some (.int .i64 x4000_2):=(blk_cell BK3.out 0).trans rfl
         have hcz151_1 : wr.cell? ⟨gb3,1,none⟩ = some (.int .i64 x4001_2):=(blk_cell BK3.out 1).trans rfl
         have hcz151_2 : wr.cell? ⟨gb3,2,none⟩ = some (.int .i64 x4002_2):=(blk_cell BK3.out 2).trans rfl
         have hcz151_3 : wr.cell? ⟨gb3,3,none⟩ = some (.int .i64 x4003_2):=(blk_cell BK3.out 3).trans rfl
         have hfz151_0:=blk_frozen BK3.out 0
         have hfz151_1:=blk_frozen BK3.out 1
         have hfz151_2:=blk_frozen BK3.out 2
         have hfz151_3:=blk_frozen BK3.out 3
         go_wp2_with (first | (go_at_call 99;(with_reducible refine (impl_Line_opens.calls x4000_2 x4001_2 x4002_2 x4003_2 true _ A148.out).mono ?_);rintro e w152 ⟨rfl,hb⟩;replace BK1:=kb_ BK1 hb;replace BK3:=kb_ BK3 hb;replace HB:=a0_ (below_step hbw_ hb);(try clear hb);(try clear hb2);(try clear hk);(try clear hi)))
         go_ret
         exact ⟨by first | rfl | (simp [errW_none,errW_some] <;> rfl) | (simp [*,errW_none,errW_some] <;> rfl),hbw_⟩
        ·replace c149:=Bool.eq_false_iff.mpr c149
         subst c149
         have H1 : ((impl_blockOk.f k2 l1 0 (l1.length : Int) false).bind fun t6=>(some t6)) = some r:=by rw [if_neg (show ¬ (false = true) by decide)] at H;exact H
         clear H
         have H:=H1
         clear H1
         replace H:=Option.bind_eq_some_iff.mp H
         obtain ⟨t6,A1530,H⟩:=H
         replace H : (some t6) = some r:=H
         have A153:=a0_ A1530
         clear A1530
         obtain rfl:=Option.some.inj H
         have hnb154:=NB3_1.out
         have hnc154:=NB1_3.out
         have hcz155_0 : wr.cell? ⟨gb3,0,none⟩ = some (.int .i64 x4000_2):=(blk_cell BK3.out 0).trans rfl
         have hcz155_1 : wr.cell? ⟨gb3,1,none⟩ = some (.int .i64 x4001_2):=(blk_cell BK3.out 1).trans rfl
         have hcz155_2 : wr.cell? ⟨gb3,2,none⟩ = some (.int .i64 x4002_2):=(blk_cell BK3.out 2).trans rfl
         have hcz155_3 : wr.cell? ⟨gb3,3,none⟩ = some (.int .i64 x4003_2):=(blk_cell BK3.out 3).trans rfl
         have hfz155_0:=blk_frozen BK3.out 0
         have hfz155_1:=blk_frozen BK3.out 1
         have hfz155_2:=blk_frozen BK3.out 2
         have hfz155_3:=blk_frozen BK3.out 3
         go_wp2_with (first | (go_at_call 99;(with_reducible refine (impl_Line_opens.calls x4000_2 x4001_2 x4002_2 x4003_2 false _ A148.out).mono ?_);rintro e w156 ⟨rfl,hb⟩;replace BK1:=kb_ BK1 hb;replace BK3:=kb_ BK3 hb;replace HB:=a0_ (below_step hbw_ hb);(try clear hb);(try clear hb2);(try clear hk);(try clear hi)) | (go_at_call 100;(with_reducible refine (impl_blockOk.calls k2 _ _ l1 0 (l1.length : Int) false t6 _ ?side1 ?side2 A153.out).mono ?_);(case side1=>exact cc_ (Kd.C_below HR1.out HB.out));(case side2=>exact HC1.out);rintro e w157 ⟨rfl,hb⟩;replace BK1:=kb_ BK1 hb;replace BK3:=kb_ BK3 hb;replace HB:=a0_ (below_step hbw_ hb);(try clear hb);(try clear hb2);(try clear hk);(try clear hi)))
         go_ret
         exact ⟨by first | rfl | (simp [errW_none,errW_some] <;> rfl) | (simp [*,errW_none,errW_some] <;> rfl),hbw_⟩
theorem impl_ValidProgram_l0 {t : List Cls} {l : List S75} (ht : t.length ≤ 9223372036854775807) (hl0 : Aside0 (l.length ≤ 1099511627776)) : ∀ (d i : Nat) (p2 p3 : Int),i + d = l.length → (∀ j,j < i → lnA t l j) →
  ∃ b,Ev (fun k=>impl_ValidProgram.l0 k l l (l.length : Int) (i : Int) t (pd l i) (pk l i) p2 p3) b ∧ (b = true ↔ (∀ j,i ≤ j → j < l.length → lnA t l j) ∧ lastL l ∧ ∀ j,j < l.length → lineOk l j):=by
 intro d
 induction d with
 | zero =>
  intro i p2 p3 hi hA
  obtain rfl : i = l.length:=by omega
  have blk : lastL l → ∃ b,Ev (fun k=>impl_blockOk.f k l 0 (l.length : Int) false) b ∧ (b = true ↔ ∀ j,j < l.length → lineOk l j):=by
   intro hla
   obtain ⟨b,hb,hbi⟩:=impl_blockOk_ev hl0.out (stl_of hA hla) l.length 0 l.length 0 false (by omega) (Nat.zero_le _) (Nat.le_refl _) (fun j _ hj=>(hA j hj).2.1) (fun h=>by
    have:=(hA 0 h).2.2.2.1 ⟨by rw [pk];omega,by rw [pk];omega⟩
    rw [pd] at this
    omega) (fun h=>absurd h (Nat.lt_irrefl _)) rfl rfl
   exact ⟨b,hb,hbi.trans ⟨fun h j hj=>h j (Nat.zero_le _) hj,fun h j _ hj=>h j hj⟩⟩
  have e1 : (∀ j,l.length ≤ j → j < l.length → lnA t l j):=fun j h1 h2=>absurd h1 (Nat.not_le_of_lt h2)
  by_cases h0 : l.length = 0
  ·obtain ⟨b,hb,hbi⟩:=blk (fun h=>by omega)
   refine ⟨b,Ev.succ ?_,hbi.trans ⟨fun h=>⟨e1,fun h=>by omega,h⟩,fun h=>h.2.2⟩⟩
   simp only [impl_ValidProgram.l0]
   exact Ev.neg (by omega) (Ev.pos (by omega) (Ev.bind hb (Ev.const rfl)))
  ·cases ho : (decide (7 ≤ pk l l.length) && decide (pk l l.length ≤ 12)) with
   | true =>
    refine ⟨false,Ev.succ ?_,fun h=>by simp at h,fun h=>absurd (by simpa using ho) (h.2.1 (by omega))⟩
    simp only [impl_ValidProgram.l0]
    refine Ev.neg (by omega) (Ev.neg (by omega) (Ev.bind (Ev.const (impl_Line_opens_ev _ _ _ _)) ?_))
    rw [ho]
    exact Ev.pos rfl (Ev.const rfl)
   | false =>
    have hla : lastL l:=fun _ h=>by
     rw [decide_eq_true h.1,decide_eq_true h.2] at ho
     simp at ho
    obtain ⟨b,hb,hbi⟩:=blk hla
    refine ⟨b,Ev.succ ?_,hbi.trans ⟨fun h=>⟨e1,hla,h⟩,fun h=>h.2.2⟩⟩
    simp only [impl_ValidProgram.l0]
    refine Ev.neg (by omega) (Ev.neg (by omega) (Ev.bind (Ev.const (impl_Line_opens_ev _ _ _ _)) ?_))
    rw [ho]
    exact Ev.neg (by simp) (Ev.bind hb (Ev.const rfl))
 | succ d ih =>
  intro i p2 p3 hi hA
  have hlt : i < l.length:=by omega
  obtain ⟨hp1,hp2⟩:=pd_in hA
  have hw : Aside0 (wrap64 ((i : Int) + 1) = ((i + 1 : Nat) : Int)):=⟨wrap_nat_ hlt hl0.out⟩
  have hwp : Aside0 (wrap64 (pd l i + 1) = pd l i + 1):=⟨wrap_in (by omega) (by omega)⟩
  have hnum:=impl_Line_argued_ev t (rd_T75 l (i : Int)) ht
  have fail : ∀ {F : Nat → Option Bool},Ev F false → ¬ lnA t l i → ∃ b,Ev F b ∧ (b = true ↔ (∀ j,i ≤ j → j < l.length → lnA t l j) ∧ lastL l ∧ ∀ j,j < l.length → lineOk l j):=fun hF hn=>⟨false,hF,fun h=>by simp at h,fun h=>absurd (h.1 i (Nat.le_refl _) hlt) hn⟩
  have go : lnA t l i → ∃ b,Ev (fun k=>impl_ValidProgram.l0 k l l (l.length : Int) ((i + 1 : Nat) : Int) t (ld l i) (lk l i) (rd_T75 l (i : Int)).f2 (rd_T75 l (i : Int)).f3) b ∧ (b = true ↔ (∀ j,i ≤ j → j < l.length → lnA t l j) ∧ lastL l ∧ ∀ j,j < l.length → lineOk l j):=by
   intro hn
   obtain ⟨b,hb,hbi⟩:=ih (i + 1) (rd_T75 l (i : Int)).f2 (rd_T75 l (i : Int)).f3 (by omega) (fun j hj=>by
    by_cases e : j = i
    ·rw [e];exact hn
    ·exact hA j (by omega))
   refine ⟨b,hb,hbi.trans ⟨fun h=>⟨fun j hj hj2=>?_,h.2⟩,fun h=>⟨fun j hj hj2=>h.1 j (by omega) hj2,h.2⟩⟩⟩
   by_cases e : j = i
   ·rw [e];exact hn
   ·exact h.1 j (by omega) hj2
  have head : ∀ {b : Bool} {Q : Prop},(∃ b,Ev (fun k=>(impl_Line_argued.f k (ld l i) (lk l i) (rd_T75 l (i : Int)).f2 (rd_T75 l (i : Int)).f3 t).bind fun t9=>(if t9 = true then ((impl_within.f (ld l i) 0 5).bind fun t10=>(if t10 = true then ((impl_Line_opens.f (pd l i) (pk l i) p2 p3).bind fun t11=>(if t11 = true then (if (ld l i) = (pd l i + 1) then ((impl_Line_opens.f (pd l i) (pk l i) p2 p3).bind fun t12=>(if t12 = true then (impl_ValidProgram.l0 k l l (l.length : Int) ((i + 1 : Nat) : Int) t (ld l i) (lk l i) (rd_T75 l (i : Int)).f2 (rd_T75 l (i : Int)).f3) else (if (ld l i) > pd l i then (some false) else (impl_ValidProgram.l0 k l l (l.length : Int) ((i + 1 : Nat) : Int) t (ld l i) (lk l i) (rd_T75 l (i : Int)).f2 (rd_T75 l (i : Int)).f3)))) else (some false)) else ((impl_Line_opens.f (pd l i) (pk l i) p2 p3).bind fun t13=>(if t13 = true then (impl_ValidProgram.l0 k l l (l.length : Int) ((i + 1 : Nat) : Int) t (ld l i) (lk l i) (rd_T75 l (i : Int)).f2 (rd_T75 l (i : Int)).f3) else (if (ld l i) > pd l i then (some false) else (impl_ValidProgram.l0 k l l (l.length : Int) ((i + 1 : Nat) : Int) t (ld l i) (lk l i) (rd_T75 l (i : Int)).f2 (rd_T75 l (i : Int)).f3)))))) else (some false))) else (some false))) b ∧ (b = true ↔ Q)) → ∃ b,Ev (fun k=>impl_ValidProgram.l0 k l l (l.length : Int) (i : Int) t (pd l i) (pk l i) p2 p3) b ∧ (b = true ↔ Q):=by
   rintro _ Q ⟨b,hb,hbi⟩
   refine ⟨b,Ev.succ ?_,hbi⟩
   simp only [impl_ValidProgram.l0,hw.out,hwp.out,rd_ld_,rd_lk_]
   exact Ev.pos (by omega) (Ev.pos (by omega) (Ev.pos (by omega) hb))
  refine head (b:=true) ?_
  cases hn : numOk t (l.getD i z75) with
  | false =>
   refine fail (Ev.bind hnum ?_) (fun h=>by rw [h.1] at hn;simp at hn)
   have e : numOk t (rd_T75 l (i : Int)) = false:=hn
   rw [e]
   exact Ev.neg (by simp) (Ev.const rfl)
  | true =>
   have e : numOk t (rd_T75 l (i : Int)) = true:=hn
   rw [e] at hnum
   by_cases hr : 0 ≤ ld l i ∧ ld l i ≤ 5
   ·have e2 : (decide (0 ≤ ld l i) && decide (ld l i ≤ 5)) = true:=by simp [hr]
    have hin : impl_within.f (ld l i) 0 5 = some true:=by rw [impl_within_ev,e2]
    by_cases ho : 7 ≤ pk l i ∧ pk l i ≤ 12
    ·have ho2 : impl_Line_opens.f (pd l i) (pk l i) p2 p3 = some true:=by rw [impl_Line_opens_ev];simp [ho]
     by_cases hd : ld l i = pd l i + 1
     ·obtain ⟨b,hb,hbi⟩:=go ⟨hn,hr.1,hr.2,fun _=>hd,fun h=>absurd ho h⟩
      exact ⟨b,Ev.bind hnum (Ev.pos rfl (Ev.bind (Ev.const hin) (Ev.pos rfl (Ev.bind (Ev.const ho2) (Ev.pos rfl (Ev.pos hd (Ev.bind (Ev.const ho2) (Ev.pos rfl hb)))))))),hbi⟩
     ·exact fail (Ev.bind hnum (Ev.pos rfl (Ev.bind (Ev.const hin) (Ev.pos rfl (Ev.bind (Ev.const ho2) (Ev.pos rfl (Ev.neg hd (Ev.const rfl)))))))) (fun h=>hd (h.2.2.2.1 ho))
    ·have ho2 : impl_Line_opens.f (pd l i) (pk l i) p2 p3 = some false:=by
      rw [impl_Line_opens_ev]
      refine congrArg some ?_
      cases hq : (decide (7 ≤ pk l i) && decide (pk l i ≤ 12)) with
      | false=>rfl
      | true=>exact absurd (by simpa using hq) ho
     by_cases hd : ld l i ≤ pd l i
     ·obtain ⟨b,hb,hbi⟩:=go ⟨hn,hr.1,hr.2,fun h=>absurd h ho,fun _=>hd⟩
      exact ⟨b,Ev.bind hnum (Ev.pos rfl (Ev.bind (Ev.const hin) (Ev.pos rfl (Ev.bind (Ev.const ho2) (Ev.neg (by simp) (Ev.bind (Ev.const ho2) (Ev.neg (by simp) (Ev.neg (by omega) hb)))))))),hbi⟩
     ·exact fail (Ev.bind hnum (Ev.pos rfl (Ev.bind (Ev.const hin) (Ev.pos rfl (Ev.bind (Ev.const ho2) (Ev.neg (by simp) (Ev.bind (Ev.const ho2) (Ev.neg (by simp) (Ev.pos (by omega) (Ev.const rfl)))))))))) (fun h=>hd (h.2.2.2.2 ho))
   ·refine fail (Ev.bind hnum (Ev.pos rfl (Ev.bind (Ev.const (impl_within_ev _ _ _)) ?_))) (fun h=>hr ⟨h.2.1,h.2.2.1⟩)
    exact Ev.neg (fun h=>hr (by simpa using h)) (Ev.const rfl)
theorem impl_ValidProgram_ev (t : List Cls) (l : List S75) (hs : smT t = true) (ht : t.length ≤ 9223372036854775807) (hl : l.length ≤ 1099511627776) : ∃ b,Ev (fun k=>impl_ValidProgram.f k t l) b ∧ (b = true ↔ vP t l):=by
 have hv : impl_ValidTree.f t = some (vT t):=by rw [impl_ValidTree.f,if_pos hs]
 have J : ∀ x,(x = true → ¬ vP t l) → ∃ b,Ev (fun k=>impl_ValidProgram.j0 k l x t) b ∧ (b = true ↔ x = false ∧ ((∀ j,j < l.length → lnA t l j) ∧ lastL l ∧ ∀ j,j < l.length → lineOk l j)):=by
  intro x hx
  cases x with
  | true =>
   refine ⟨false,Ev.succ ?_,by simp⟩
   simp only [impl_ValidProgram.j0]
   exact Ev.pos (by simp) (Ev.const rfl)
  | false =>
   obtain ⟨b,hb,hbi⟩:=impl_ValidProgram_l0 (t:=t) (l:=l) ht ⟨hl⟩ l.length 0 0 0 (by omega) (fun j hj=>by omega)
   refine ⟨b,Ev.succ ?_,hbi.trans ⟨fun h=>⟨rfl,fun j hj=>h.1 j (Nat.zero_le _) hj,h.2⟩,fun h=>⟨fun j _ hj=>h.2.1 j hj,h.2.2⟩⟩⟩
   simp only [impl_ValidProgram.j0]
   exact Ev.neg (by simp) hb
 unfold impl_ValidProgram.f
 cases hvt : vT t with
 | true =>
  rw [hvt] at hv
  obtain ⟨b,hb,hbi⟩:=J (decide ((l.length : Int) > 24)) (fun h h2=>by have:=h2.2.1;have:=of_decide_eq_true h;omega)
  refine ⟨b,Ev.bind (Ev.const hv) (Ev.pos rfl hb),hbi.trans ⟨fun h=>⟨hvt,?_,h.2⟩,fun h=>⟨?_,h.2.2⟩⟩⟩
  ·have:=of_decide_eq_false h.1
   omega
  ·have:=h.2.1
   exact decide_eq_false (by omega)
 | false =>
  rw [hvt] at hv
  obtain ⟨b,hb,hbi⟩:=J true (fun _ h2=>by rw [h2.1] at hvt;simp at hvt)
  refine ⟨b,Ev.bind (Ev.const hv) (Ev.neg (by simp) hb),hbi.trans ⟨fun h=>by simp at h,fun h=>?_⟩⟩
  rw [h.1] at hvt
  simp at hvt
end Go.Proofs.Ytacgehaipacehaa.P
namespace Go.Proofs.Ytacgehaipacehaa.P
open Go.RowKit Go.Proofs.YtacgehaipacehaaW.PrintWords Go.Proofs.YtacgehaipacehaaW.PrintLast Go.Proofs.YtacgehaipacehaaW.PrintMore
attribute [local go_sem] max2_int min2_int max_two min_two max_three min_three max_four min_four
set_option linter.unusedVariables false
set_option linter.unusedSimpArgs false
def laws_eqLine.f (a0_0 : Int) (a0_1 : Int) (a0_2 : Int) (a0_3 : Int) (a1_0 : Int) (a1_1 : Int) (a1_2 : Int) (a1_3 : Int) : Option (Bool):=if a0_0 = a1_0 then (if a0_1 = a1_1 then (if a0_2 = a1_2 then (if a0_3 = a1_3 then (some true) else (some false)) else (some false)) else (some false)) else (some false)
set_option maxHeartbeats 8000000 in
set_option maxRecDepth 100000 in
theorem laws_eqLine.calls (a0_0 : Int) (a0_1 : Int) (a0_2 : Int) (a0_3 : Int) (a1_0 : Int) (a1_1 : Int) (a1_2 : Int) (a1_3 : Int) (r : Bool) (w : World) (h : laws_eqLine.f a0_0 a0_1 a0_2 a0_3 a1_0 a1_1 a1_2 a1_3 = some r) :
  Calls Try.prog 101 #[.agg #[.int .i64 a0_0,.int .i64 a0_1,.int .i64 a0_2,.int .i64 a0_3],.agg #[.int .i64 a1_0,.int .i64 a1_1,.int .i64 a1_2,.int .i64 a1_3]] w fun e w'=>e = .returned (.bool r) ∧ Below w.heap.size w w':=by
 have hu75:=Try.underlying75
 have HB:=a0_ (Below.refl w.heap.size w)
 have H : (if a0_0 = a1_0 then (if a0_1 = a1_1 then (if a0_2 = a1_2 then (if a0_3 = a1_3 then (some true) else (some false)) else (some false)) else (some false)) else (some false)) = some r:=h
 clear h
 by_cases c3 : a0_0 = a1_0
 ·rw [if_pos c3] at H
  have c3b0 : (a0_0 == a1_0) = true:=beq_iff_eq.mpr c3
  have c3b1 : (a0_0 != a1_0) = false:=bne_eq_false_iff_eq.mpr c3
  clear c3
  by_cases c4 : a0_1 = a1_1
  ·rw [if_pos c4] at H
   have c4b0 : (a0_1 == a1_1) = true:=beq_iff_eq.mpr c4
   have c4b1 : (a0_1 != a1_1) = false:=bne_eq_false_iff_eq.mpr c4
   clear c4
   by_cases c5 : a0_2 = a1_2
   ·rw [if_pos c5] at H
    have c5b0 : (a0_2 == a1_2) = true:=beq_iff_eq.mpr c5
    have c5b1 : (a0_2 != a1_2) = false:=bne_eq_false_iff_eq.mpr c5
    clear c5
    by_cases c6 : a0_3 = a1_3
    ·rw [if_pos c6] at H
     have c6b0 : (a0_3 == a1_3) = true:=beq_iff_eq.mpr c6
     have c6b1 : (a0_3 != a1_3) = false:=bne_eq_false_iff_eq.mpr c6
     clear c6
     obtain rfl:=Option.some.inj H
     go_enter Try.func101,Try.ntmps101
     go_wp2_with (first | ((with_reducible refine gate_dst (N:=2) rfl ?_);refine box_event ?hg (N:=2) ?hd (cs:=#[.int .i64 a0_0,.int .i64 a0_1,.int .i64 a0_2,.int .i64 a0_3]) (t:=75) ?hr ?_;(case hd=>rfl);(case hg=>rfl);(case hr=>first | (go_simp;done) | (go_simp;rfl));intro gb1 hg w7 hbox hb;have BK1:=a0_ (hbox);have GW1:=a0_ ((by rw [hg];exact (below_size hbw_) : w.heap.size ≤ gb1));have GE1:=a0_ ((by rw [hg];exact (below_size hbw_) : w.heap.size ≤ gb1));replace HB:=a0_ (below_step hbw_ hb);clear hb hbox hg) | ((with_reducible refine gate_dst (N:=3) rfl ?_);refine box_event ?hg (N:=3) ?hd (cs:=#[.int .i64 a1_0,.int .i64 a1_1,.int .i64 a1_2,.int .i64 a1_3]) (t:=75) ?hr ?_;(case hd=>rfl);(case hg=>rfl);(case hr=>first | (go_simp;done) | (go_simp;rfl));intro gb2 hg w8 hbox hb;have n0_:=kb_ BK1 hb;have n1_:=a0_ (below_step hbw_ hb);have n2_:=a0_ (hbox);have n3_:=a0_ ((by rw [hg];exact (below_size hbw_) : w.heap.size ≤ gb2));have n4_:=a0_ ((by rw [hg];exact (below_size hbw_) : w.heap.size ≤ gb2));have n5_:=a0_ ((by rw [hg];exact Nat.ne_of_lt (blk_lt (bb_ BK1.out)) : gb1 ≠ gb2));have n6_:=a0_ ((by rw [hg];exact Nat.ne_of_gt (blk_lt (bb_ BK1.out)) : gb2 ≠ gb1));clear BK1 HB;have BK1:=n0_;have HB:=n1_;have BK2:=n2_;have GW2:=n3_;have GE2:=n4_;have NB1_2:=n5_;have NB2_1:=n6_;clear n0_ n1_ n2_ n3_ n4_ n5_ n6_;clear hb hbox hg;have hnb9:=NB1_2.out;have hnc9:=NB2_1.out;have hcz10_0 : w8.cell? ⟨gb1,0,none⟩ = some (.int .i64 a0_0):=(blk_cell BK1.out 0).trans rfl;have hcz10_1 : w8.cell? ⟨gb1,1,none⟩ = some (.int .i64 a0_1):=(blk_cell BK1.out 1).trans rfl;have hcz10_2 : w8.cell? ⟨gb1,2,none⟩ = some (.int .i64 a0_2):=(blk_cell BK1.out 2).trans rfl;have hcz10_3 : w8.cell? ⟨gb1,3,none⟩ = some (.int .i64 a0_3):=(blk_cell BK1.out 3).trans rfl;have hfz10_0:=blk_frozen BK1.out 0;have hfz10_1:=blk_frozen BK1.out 1;have hfz10_2:=blk_frozen BK1.out 2;have hfz10_3:=blk_frozen BK1.out 3;have hcz11_0 : w8.cell? ⟨gb2,0,none⟩ = some (.int .i64 a1_0):=(blk_cell BK2.out 0).trans rfl;have hcz11_1 : w8.cell? ⟨gb2,1,none⟩ = some (.int .i64 a1_1):=(blk_cell BK2.out 1).trans rfl;have hcz11_2 : w8.cell? ⟨gb2,2,none⟩ = some (.int .i64 a1_2):=(blk_cell BK2.out 2).trans rfl;have hcz11_3 : w8.cell? ⟨gb2,3,none⟩ = some (.int .i64 a1_3):=(blk_cell BK2.out 3).trans rfl;have hfz11_0:=blk_frozen BK2.out 0;have hfz11_1:=blk_frozen BK2.out 1;have hfz11_2:=blk_frozen BK2.out 2;have hfz11_3:=blk_frozen BK2.out 3))
     go_ret
     exact ⟨by first | rfl | (simp [errW_none,errW_some] <;> rfl) | (simp [*,errW_none,errW_some] <;> rfl),hbw_⟩
    ·rw [if_neg c6] at H
     have c6b0 : (a0_3 == a1_3) = false:=beq_eq_false_iff_ne.mpr c6
     have c6b1 : (a0_3 != a1_3) = true:=bne_iff_ne.mpr c6
     obtain rfl:=Option.some.inj H
     go_enter Try.func101,Try.ntmps101
     go_wp2_with (first | ((with_reducible refine gate_dst (N:=2) rfl ?_);refine box_event ?hg (N:=2) ?hd (cs:=#[.int .i64 a0_0,.int .i64 a0_1,.int .i64 a0_2,.int .i64 a0_3]) (t:=75) ?hr ?_;(case hd=>rfl);(case hg=>rfl);(case hr=>first | (go_simp;done) | (go_simp;rfl));intro gb1 hg w12 hbox hb;have BK1:=a0_ (hbox);have GW1:=a0_ ((by rw [hg];exact (below_size hbw_) : w.heap.size ≤ gb1));have GE1:=a0_ ((by rw [hg];exact (below_size hbw_) : w.heap.size ≤ gb1));replace HB:=a0_ (below_step hbw_ hb);clear hb hbox hg) | ((with_reducible refine gate_dst (N:=3) rfl ?_);refine box_event ?hg (N:=3) ?hd (cs:=#[.int .i64 a1_0,.int .i64 a1_1,.int .i64 a1_2,.int .i64 a1_3]) (t:=75) ?hr ?_;(case hd=>rfl);(case hg=>rfl);(case hr=>first | (go_simp;done) | (go_simp;rfl));intro gb2 hg w13 hbox hb;have n0_:=kb_ BK1 hb;have n1_:=a0_ (below_step hbw_ hb);have n2_:=a0_ (hbox);have n3_:=a0_ ((by rw [hg];exact (below_size hbw_) : w.heap.size ≤ gb2));have n4_:=a0_ ((by rw [hg];exact (below_size hbw_) : w.heap.size ≤ gb2));have n5_:=a0_ ((by rw [hg];exact Nat.ne_of_lt (blk_lt (bb_ BK1.out)) : gb1 ≠ gb2));have n6_:=a0_ ((by rw [hg];exact Nat.ne_of_gt (blk_lt (bb_ BK1.out)) : gb2 ≠ gb1));clear BK1 HB;have BK1:=n0_;have HB:=n1_;have BK2:=n2_;have GW2:=n3_;have GE2:=n4_;have NB1_2:=n5_;have NB2_1:=n6_;clear n0_ n1_ n2_ n3_ n4_ n5_ n6_;clear hb hbox hg;have hnb14:=NB1_2.out;have hnc14:=NB2_1.out;have hcz15_0 : w13.cell? ⟨gb1,0,none⟩ = some (.int .i64 a0_0):=(blk_cell BK1.out 0).trans rfl;have hcz15_1 : w13.cell? ⟨gb1,1,none⟩ = some (.int .i64 a0_1):=(blk_cell BK1.out 1).trans rfl;have hcz15_2 : w13.cell? ⟨gb1,2,none⟩ = some (.int .i64 a0_2):=(blk_cell BK1.out 2).trans rfl;have hcz15_3 : w13.cell? ⟨gb1,3,none⟩ = some (.int .i64 a0_3):=(blk_cell BK1.out 3).trans rfl;have hfz15_0:=blk_frozen BK1.out 0;have hfz15_1:=blk_frozen BK1.out 1;have hfz15_2:=blk_frozen BK1.out 2;have hfz15_3:=blk_frozen BK1.out 3;have hcz16_0 : w13.cell? ⟨gb2,0,none⟩ = some (.int .i64 a1_0):=(blk_cell BK2.out 0).trans rfl;have hcz16_1 : w13.cell? ⟨gb2,1,none⟩ = some (.int .i64 a1_1):=(blk_cell BK2.out 1).trans rfl;have hcz16_2 : w13.cell? ⟨gb2,2,none⟩ = some (.int .i64 a1_2):=(blk_cell BK2.out 2).trans rfl;have hcz16_3 : w13.cell? ⟨gb2,3,none⟩ = some (.int .i64 a1_3):=(blk_cell BK2.out 3).trans rfl;have hfz16_0:=blk_frozen BK2.out 0;have hfz16_1:=blk_frozen BK2.out 1;have hfz16_2:=blk_frozen BK2.out 2;have hfz16_3:=blk_frozen BK2.out 3))
     go_ret
     exact ⟨by first | rfl | (simp [errW_none,errW_some] <;> rfl) | (simp [*,errW_none,errW_some] <;> rfl),hbw_⟩
   ·rw [if_neg c5] at H
    have c5b0 : (a0_2 == a1_2) = false:=beq_eq_false_iff_ne.mpr c5
    have c5b1 : (a0_2 != a1_2) = true:=bne_iff_ne.mpr c5
    obtain rfl:=Option.some.inj H
    go_enter Try.func101,Try.ntmps101
    go_wp2_with (first | ((with_reducible refine gate_dst (N:=2) rfl ?_);refine box_event ?hg (N:=2) ?hd (cs:=#[.int .i64 a0_0,.int .i64 a0_1,.int .i64 a0_2,.int .i64 a0_3]) (t:=75) ?hr ?_;(case hd=>rfl);(case hg=>rfl);(case hr=>first | (go_simp;done) | (go_simp;rfl));intro gb1 hg w17 hbox hb;have BK1:=a0_ (hbox);have GW1:=a0_ ((by rw [hg];exact (below_size hbw_) : w.heap.size ≤ gb1));have GE1:=a0_ ((by rw [hg];exact (below_size hbw_) : w.heap.size ≤ gb1));replace HB:=a0_ (below_step hbw_ hb);clear hb hbox hg) | ((with_reducible refine gate_dst (N:=3) rfl ?_);refine box_event ?hg (N:=3) ?hd (cs:=#[.int .i64 a1_0,.int .i64 a1_1,.int .i64 a1_2,.int .i64 a1_3]) (t:=75) ?hr ?_;(case hd=>rfl);(case hg=>rfl);(case hr=>first | (go_simp;done) | (go_simp;rfl));intro gb2 hg w18 hbox hb;have n0_:=kb_ BK1 hb;have n1_:=a0_ (below_step hbw_ hb);have n2_:=a0_ (hbox);have n3_:=a0_ ((by rw [hg];exact (below_size hbw_) : w.heap.size ≤ gb2));have n4_:=a0_ ((by rw [hg];exact (below_size hbw_) : w.heap.size ≤ gb2));have n5_:=a0_ ((by rw [hg];exact Nat.ne_of_lt (blk_lt (bb_ BK1.out)) : gb1 ≠ gb2));have n6_:=a0_ ((by rw [hg];exact Nat.ne_of_gt (blk_lt (bb_ BK1.out)) : gb2 ≠ gb1));clear BK1 HB;have BK1:=n0_;have HB:=n1_;have BK2:=n2_;have GW2:=n3_;have GE2:=n4_;have NB1_2:=n5_;have NB2_1:=n6_;clear n0_ n1_ n2_ n3_ n4_ n5_ n6_;clear hb hbox hg;have hnb19:=NB1_2.out;have hnc19:=NB2_1.out;have hcz20_0 : w18.cell? ⟨gb1,0,none⟩ = some (.int .i64 a0_0):=(blk_cell BK1.out 0).trans rfl;have hcz20_1 : w18.cell? ⟨gb1,1,none⟩ = some (.int .i64 a0_1):=(blk_cell BK1.out 1).trans rfl;have hcz20_2 : w18.cell? ⟨gb1,2,none⟩ = some (.int .i64 a0_2):=(blk_cell BK1.out 2).trans rfl;have hcz20_3 : w18.cell? ⟨gb1,3,none⟩ = some (.int .i64 a0_3):=(blk_cell BK1.out 3).trans rfl;have hfz20_0:=blk_frozen BK1.out 0;have hfz20_1:=blk_frozen BK1.out 1;have hfz20_2:=blk_frozen BK1.out 2;have hfz20_3:=blk_frozen BK1.out 3;have hcz21_0 : w18.cell? ⟨gb2,0,none⟩ = some (.int .i64 a1_0):=(blk_cell BK2.out 0).trans rfl;have hcz21_1 : w18.cell? ⟨gb2,1,none⟩ = some (.int .i64 a1_1):=(blk_cell BK2.out 1).trans rfl;have hcz21_2 : w18.cell? ⟨gb2,2,none⟩ = some (.int .i64 a1_2):=(blk_cell BK2.out 2).trans rfl;have hcz21_3 : w18.cell? ⟨gb2,3,none⟩ = some (.int .i64 a1_3):=(blk_cell BK2.out 3).trans rfl;have hfz21_0:=blk_frozen BK2.out 0;have hfz21_1:=blk_frozen BK2.out 1;have hfz21_2:=blk_frozen BK2.out 2;have hfz21_3:=blk_frozen BK2.out 3))
    go_ret
    exact ⟨by first | rfl | (simp [errW_none,errW_some] <;> rfl) | (simp [*,errW_none,errW_some] <;> rfl),hbw_⟩
  ·rw [if_neg c4] at H
   have c4b0 : (a0_1 == a1_1) = false:=beq_eq_false_iff_ne.mpr c4
   have c4b1 : (a0_1 != a1_1) = true:=bne_iff_ne.mpr c4
   obtain rfl:=Option.some.inj H
   go_enter Try.func101,Try.ntmps101
   go_wp2_with (first | ((with_reducible refine gate_dst (N:=2) rfl ?_);refine box_event ?hg (N:=2) ?hd (cs:=#[.int .i64 a0_0,.int .i64 a0_1,.int .i64 a0_2,.int .i64 a0_3]) (t:=75) ?hr ?_;(case hd=>rfl);(case hg=>rfl);(case hr=>first | (go_simp;done) | (go_simp;rfl));intro gb1 hg w22 hbox hb;have BK1:=a0_ (hbox);have GW1:=a0_ ((by rw [hg];exact (below_size hbw_) : w.heap.size ≤ gb1));have GE1:=a0_ ((by rw [hg];exact (below_size hbw_) : w.heap.size ≤ gb1));replace HB:=a0_ (below_step hbw_ hb);clear hb hbox hg) | ((with_reducible refine gate_dst (N:=3) rfl ?_);refine box_event ?hg (N:=3) ?hd (cs:=#[.int .i64 a1_0,.int .i64 a1_1,.int .i64 a1_2,.int .i64 a1_3]) (t:=75) ?hr ?_;(case hd=>rfl);(case hg=>rfl);(case hr=>first | (go_simp;done) | (go_simp;rfl));intro gb2 hg w23 hbox hb;have n0_:=kb_ BK1 hb;have n1_:=a0_ (below_step hbw_ hb);have n2_:=a0_ (hbox);have n3_:=a0_ ((by rw [hg];exact (below_size hbw_) : w.heap.size ≤ gb2));have n4_:=a0_ ((by rw [hg];exact (below_size hbw_) : w.heap.size ≤ gb2));have n5_:=a0_ ((by rw [hg];exact Nat.ne_of_lt (blk_lt (bb_ BK1.out)) : gb1 ≠ gb2));have n6_:=a0_ ((by rw [hg];exact Nat.ne_of_gt (blk_lt (bb_ BK1.out)) : gb2 ≠ gb1));clear BK1 HB;have BK1:=n0_;have HB:=n1_;have BK2:=n2_;have GW2:=n3_;have GE2:=n4_;have NB1_2:=n5_;have NB2_1:=n6_;clear n0_ n1_ n2_ n3_ n4_ n5_ n6_;clear hb hbox hg;have hnb24:=NB1_2.out;have hnc24:=NB2_1.out;have hcz25_0 : w23.cell? ⟨gb1,0,none⟩ = some (.int .i64 a0_0):=(blk_cell BK1.out 0).trans rfl;have hcz25_1 : w23.cell? ⟨gb1,1,none⟩ = some (.int .i64 a0_1):=(blk_cell BK1.out 1).trans rfl;have hcz25_2 : w23.cell? ⟨gb1,2,none⟩ = some (.int .i64 a0_2):=(blk_cell BK1.out 2).trans rfl;have hcz25_3 : w23.cell? ⟨gb1,3,none⟩ = some (.int .i64 a0_3):=(blk_cell BK1.out 3).trans rfl;have hfz25_0:=blk_frozen BK1.out 0;have hfz25_1:=blk_frozen BK1.out 1;have hfz25_2:=blk_frozen BK1.out 2;have hfz25_3:=blk_frozen BK1.out 3;have hcz26_0 : w23.cell? ⟨gb2,0,none⟩ = some (.int .i64 a1_0):=(blk_cell BK2.out 0).trans rfl;have hcz26_1 : w23.cell? ⟨gb2,1,none⟩ = some (.int .i64 a1_1):=(blk_cell BK2.out 1).trans rfl;have hcz26_2 : w23.cell? ⟨gb2,2,none⟩ = some (.int .i64 a1_2):=(blk_cell BK2.out 2).trans rfl;have hcz26_3 : w23.cell? ⟨gb2,3,none⟩ = some (.int .i64 a1_3):=(blk_cell BK2.out 3).trans rfl;have hfz26_0:=blk_frozen BK2.out 0;have hfz26_1:=blk_frozen BK2.out 1;have hfz26_2:=blk_frozen BK2.out 2;have hfz26_3:=blk_frozen BK2.out 3))
   go_ret
   exact ⟨by first | rfl | (simp [errW_none,errW_some] <;> rfl) | (simp [*,errW_none,errW_some] <;> rfl),hbw_⟩
 ·rw [if_neg c3] at H
  have c3b0 : (a0_0 == a1_0) = false:=beq_eq_false_iff_ne.mpr c3
  have c3b1 : (a0_0 != a1_0) = true:=bne_iff_ne.mpr c3
  obtain rfl:=Option.some.inj H
  go_enter Try.func101,Try.ntmps101
  go_wp2_with (first | ((with_reducible refine gate_dst (N:=2) rfl ?_);refine box_event ?hg (N:=2) ?hd (cs:=#[.int .i64 a0_0,.int .i64 a0_1,.int .i64 a0_2,.int .i64 a0_3]) (t:=75) ?hr ?_;(case hd=>rfl);(case hg=>rfl);(case hr=>first | (go_simp;done) | (go_simp;rfl));intro gb1 hg w27 hbox hb;have BK1:=a0_ (hbox);have GW1:=a0_ ((by rw [hg];exact (below_size hbw_) : w.heap.size ≤ gb1));have GE1:=a0_ ((by rw [hg];exact (below_size hbw_) : w.heap.size ≤ gb1));replace HB:=a0_ (below_step hbw_ hb);clear hb hbox hg) | ((with_reducible refine gate_dst (N:=3) rfl ?_);refine box_event ?hg (N:=3) ?hd (cs:=#[.int .i64 a1_0,.int .i64 a1_1,.int .i64 a1_2,.int .i64 a1_3]) (t:=75) ?hr ?_;(case hd=>rfl);(case hg=>rfl);(case hr=>first | (go_simp;done) | (go_simp;rfl));intro gb2 hg w28 hbox hb;have n0_:=kb_ BK1 hb;have n1_:=a0_ (below_step hbw_ hb);have n2_:=a0_ (hbox);have n3_:=a0_ ((by rw [hg];exact (below_size hbw_) : w.heap.size ≤ gb2));have n4_:=a0_ ((by rw [hg];exact (below_size hbw_) : w.heap.size ≤ gb2));have n5_:=a0_ ((by rw [hg];exact Nat.ne_of_lt (blk_lt (bb_ BK1.out)) : gb1 ≠ gb2));have n6_:=a0_ ((by rw [hg];exact Nat.ne_of_gt (blk_lt (bb_ BK1.out)) : gb2 ≠ gb1));clear BK1 HB;have BK1:=n0_;have HB:=n1_;have BK2:=n2_;have GW2:=n3_;have GE2:=n4_;have NB1_2:=n5_;have NB2_1:=n6_;clear n0_ n1_ n2_ n3_ n4_ n5_ n6_;clear hb hbox hg;have hnb29:=NB1_2.out;have hnc29:=NB2_1.out;have hcz30_0 : w28.cell? ⟨gb1,0,none⟩ = some (.int .i64 a0_0):=(blk_cell BK1.out 0).trans rfl;have hcz30_1 : w28.cell? ⟨gb1,1,none⟩ = some (.int .i64 a0_1):=(blk_cell BK1.out 1).trans rfl;have hcz30_2 : w28.cell? ⟨gb1,2,none⟩ = some (.int .i64 a0_2):=(blk_cell BK1.out 2).trans rfl;have hcz30_3 : w28.cell? ⟨gb1,3,none⟩ = some (.int .i64 a0_3):=(blk_cell BK1.out 3).trans rfl;have hfz30_0:=blk_frozen BK1.out 0;have hfz30_1:=blk_frozen BK1.out 1;have hfz30_2:=blk_frozen BK1.out 2;have hfz30_3:=blk_frozen BK1.out 3;have hcz31_0 : w28.cell? ⟨gb2,0,none⟩ = some (.int .i64 a1_0):=(blk_cell BK2.out 0).trans rfl;have hcz31_1 : w28.cell? ⟨gb2,1,none⟩ = some (.int .i64 a1_1):=(blk_cell BK2.out 1).trans rfl;have hcz31_2 : w28.cell? ⟨gb2,2,none⟩ = some (.int .i64 a1_2):=(blk_cell BK2.out 2).trans rfl;have hcz31_3 : w28.cell? ⟨gb2,3,none⟩ = some (.int .i64 a1_3):=(blk_cell BK2.out 3).trans rfl;have hfz31_0:=blk_frozen BK2.out 0;have hfz31_1:=blk_frozen BK2.out 1;have hfz31_2:=blk_frozen BK2.out 2;have hfz31_3:=blk_frozen BK2.out 3))
  go_ret
  exact ⟨by first | rfl | (simp [errW_none,errW_some] <;> rfl) | (simp [*,errW_none,errW_some] <;> rfl),hbw_⟩
end Go.Proofs.Ytacgehaipacehaa.P
namespace Go.Proofs.Ytacgehaipacehaa.P
open Go.RowKit Go.Proofs.YtacgehaipacehaaW.PrintWords Go.Proofs.YtacgehaipacehaaW.PrintLast Go.Proofs.YtacgehaipacehaaW.PrintMore
attribute [local go_sem] max2_int min2_int max_two min_two max_three min_three max_four min_four
set_option linter.unusedVariables false
set_option linter.unusedSimpArgs false
def laws_eqLineS.l0 : Nat → List (S75) → List (S75) → Int → Option (Bool)
 | 0,_,_,_=>none
 | k + 1,x0,x1,x5=>if x5 < (x0.length : Int) then (if 0 ≤ x5 then (if x5 < (x1.length : Int) then ((laws_eqLine.f ((rd_T75 x0 x5).f0) ((rd_T75 x0 x5).f1) ((rd_T75 x0 x5).f2) ((rd_T75 x0 x5).f3) ((rd_T75 x1 x5).f0) ((rd_T75 x1 x5).f1) ((rd_T75 x1 x5).f2) ((rd_T75 x1 x5).f3)).bind fun t3=>(if t3 = true then (laws_eqLineS.l0 k x0 x1 (wrap64 (x5 + 1))) else (some false))) else (none)) else (none)) else (some true)
def laws_eqLineS.f (k : Nat) (l0 : List (S75)) (l1 : List (S75)) : Option (Bool):=if (l0.length : Int) = (l1.length : Int) then (laws_eqLineS.l0 k l0 l1 0) else (some false)
theorem laws_eqLineS.mono_l : ∀ k,(∀ y0 y1 y2,LeO (laws_eqLineS.l0 k y0 y1 y2) (laws_eqLineS.l0 (k + 1) y0 y1 y2))
 | 0=>fun _ _ _ r h=>by simp [laws_eqLineS.l0] at h
 | k + 1=>by
  have ih0:=laws_eqLineS.mono_l k
  ·intro y0 y1 y2
   unfold laws_eqLineS.l0
   repeat' first
   | (with_reducible exact ih0 _ _ _)
   | (with_reducible exact LeO.refl _)
   | (with_reducible exact LeO.none _)
   | (with_reducible refine LeO.ite ?_ ?_)
   | (with_reducible refine LeO.bind ?_ (fun _=>?_))
   | exact ih0 _ _ _
   | exact LeO.none _
   | refine LeO.ite ?_ ?_
   | refine LeO.bind ?_ (fun _=>?_)
theorem laws_eqLineS.mono : ∀ a0 a1 k,LeO (laws_eqLineS.f k a0 a1) (laws_eqLineS.f (k + 1) a0 a1):=by
 intro a0 a1 k
 have ih0:=laws_eqLineS.mono_l k
 unfold laws_eqLineS.f
 repeat' first
   | (with_reducible exact ih0 _ _ _)
   | (with_reducible exact LeO.refl _)
   | (with_reducible exact LeO.none _)
   | (with_reducible refine LeO.ite ?_ ?_)
   | (with_reducible refine LeO.bind ?_ (fun _=>?_))
   | exact ih0 _ _ _
   | exact LeO.none _
   | refine LeO.ite ?_ ?_
   | refine LeO.bind ?_ (fun _=>?_)
def laws_eqLineS.T6 : Bool × List (List Nat × List Nat):=(true,[([],[]),([],[]),([0,1],[0,1]),([2],[2]),([],[]),([],[]),([4,5],[4,5]),([6],[6]),([3,7],[3,7]),([8],[8])])
def laws_eqLineS.B6 : List Nat:=[0,0,3,7,0,0,48,112,255,511]
theorem laws_eqLineS.tab6 : rtab .any (opsOf Try.f46 6) = laws_eqLineS.T6:=by kernel_rfl
theorem laws_eqLineS.bits6 : waitsOk laws_eqLineS.T6.2 laws_eqLineS.B6 = true:=by kernel_rfl
set_option maxHeartbeats 8000000 in
set_option maxRecDepth 100000 in
theorem laws_eqLineS.calls (k : Nat) (A0 : Option Addr) (c0 : Nat) (l0 : List (S75)) (A1 : Option Addr) (c1 : Nat) (l1 : List (S75)) (r : Bool) (w : World) (hr0 : Kd.C k75 w A0 l0.length l0) (hc0 : l0.length ≤ c0) (hr1 : Kd.C k75 w A1 l1.length l1) (hc1 : l1.length ≤ c1) (h : laws_eqLineS.f k l0 l1 = some r) :
  Calls Try.prog 46 #[.slice A0 l0.length c0,.slice A1 l1.length c1] w fun e w'=>e = .returned (.bool r) ∧ Below w.heap.size w w':=by
 have hu75:=Try.underlying75
 have HR0:=a0_ hr0
 have HC0:=a0_ hc0
 clear hr0 hc0
 have HR1:=a0_ hr1
 have HC1:=a0_ hc1
 clear hr1 hc1
 have HB:=a0_ (Below.refl w.heap.size w)
 have H : (if (l0.length : Int) = (l1.length : Int) then (laws_eqLineS.l0 k l0 l1 0) else (some false)) = some r:=h
 clear h
 by_cases c3 : (l0.length : Int) = (l1.length : Int)
 ·rw [if_pos c3] at H
  have c3b0 : ((l0.length : Int) == (l1.length : Int)) = true:=beq_iff_eq.mpr c3
  have c3b1 : ((l0.length : Int) != (l1.length : Int)) = false:=bne_eq_false_iff_eq.mpr c3
  have c3b2 : (l0.length == l1.length) = true:=by first | simpa using c3 | (simp at c3 ⊢;omega)
  clear c3
  have H':=a0_ H
  clear H
  go_enter Try.func46,Try.ntmps46
  go_wp2
  go_loopg [5] k (fun kq v5 w'=>∃ (x5_1 : Int),v5 = .int .i64 x5_1 ∧ Aside0 (laws_eqLineS.l0 kq l0 l1 x5_1 = some r) ∧ Aside0 (kq ≤ k) ∧ Aside0 (Below w.heap.size w w'))
  case atStart=>exact ⟨(0),(by first | rfl | (simp;done) | (simp [*];done)),H',⟨Nat.le_refl _⟩,⟨hbw_⟩⟩
  case round =>
   clear H'
   try clear c1
   try clear p2
   try clear c3
   try clear c3b0
   try clear c3b1
   try clear c3b2
   obtain ⟨x5_1,rfl,HA,HK1,HB⟩:=hrel
   cases gk with
   | zero=>exact absurd HA.out (by simp [laws_eqLineS.l0])
   | succ k1 =>
    have H:=HA.out
    clear HA
    simp only [laws_eqLineS.l0] at H
    by_cases c4 : x5_1 < (l0.length : Int)
    ·rw [if_pos c4] at H
     have c4b0 : decide (x5_1 < (l0.length : Int)) = true:=decide_eq_true c4
     clear c4
     by_cases c5 : 0 ≤ x5_1
     ·rw [if_pos c5] at H
      have c5b0 : decide (0 ≤ x5_1) = true:=decide_eq_true c5
      clear c5
      by_cases c6 : x5_1 < (l1.length : Int)
      ·rw [if_pos c6] at H
       have c6b0 : decide (x5_1 < (l1.length : Int)) = true:=decide_eq_true c6
       clear c6
       replace H:=Option.bind_eq_some_iff.mp H
       obtain ⟨t3,A70,H⟩:=H
       try dsimp only at H
       have A7:=a0_ A70
       clear A70
       by_cases c8 : t3 = true
       ·subst c8
        have H1 : (laws_eqLineS.l0 k1 l0 l1 (wrap64 (x5_1 + 1))) = some r:=by rw [if_pos rfl] at H;exact H
        clear H
        have H:=H1
        clear H1
        have H':=a0_ H
        clear H
        try go_wp2
        have n0_:=a0_ (below_drew1 HB.out)
        clear HB
        have HB:=n0_
        clear n0_
        have p1 : 0 ≤ (x5_1 : Int):=of_decide_eq_true (by first | (with_reducible assumption) | assumption)
        have q1 : x5_1 < (l0.length : Int):=of_decide_eq_true (by first | (with_reducible assumption) | assumption)
        obtain ⟨ad1,e1,hx1_0,hx1_1,hx1_2,hx1_3⟩:=at_T75 HR0.out x5_1 p1 q1
        have hw1_3:=hx1_3
        have hw1_2:=hx1_2
        have hw1_1:=hx1_1
        have hw1_0:=hx1_0
        cases e1
        replace hx1_0:=(HB.out.cell (World.block_lt_of_cell? w _ hx1_0)).trans hx1_0
        replace hx1_1:=(HB.out.cell (World.block_lt_of_cell? w _ hx1_1)).trans hx1_1
        replace hx1_2:=(HB.out.cell (World.block_lt_of_cell? w _ hx1_2)).trans hx1_2
        replace hx1_3:=(HB.out.cell (World.block_lt_of_cell? w _ hx1_3)).trans hx1_3
        replace p1:=eq_true p1
        replace q1:=eq_true q1
        have p2 : 0 ≤ (x5_1 : Int):=of_decide_eq_true (by first | (with_reducible assumption) | assumption)
        have q2 : x5_1 < (l1.length : Int):=of_decide_eq_true (by first | (with_reducible assumption) | assumption)
        obtain ⟨ad2,e2,hx2_0,hx2_1,hx2_2,hx2_3⟩:=at_T75 HR1.out x5_1 p2 q2
        have hw2_3:=hx2_3
        have hw2_2:=hx2_2
        have hw2_1:=hx2_1
        have hw2_0:=hx2_0
        cases e2
        replace hx2_0:=(HB.out.cell (World.block_lt_of_cell? w _ hx2_0)).trans hx2_0
        replace hx2_1:=(HB.out.cell (World.block_lt_of_cell? w _ hx2_1)).trans hx2_1
        replace hx2_2:=(HB.out.cell (World.block_lt_of_cell? w _ hx2_2)).trans hx2_2
        replace hx2_3:=(HB.out.cell (World.block_lt_of_cell? w _ hx2_3)).trans hx2_3
        replace p2:=eq_true p2
        replace q2:=eq_true q2
        refine start_ (n:=10) (S:=fun w'=>w'.cell? (ad1.add ((x5_1).toNat * 4)) = some (.int .i64 ((rd_T75 l0 x5_1).f0)) ∧ w'.cell? ⟨(ad1.add ((x5_1).toNat * 4)).block,(ad1.add ((x5_1).toNat * 4)).off + 1,none⟩ = some (.int .i64 ((rd_T75 l0 x5_1).f1)) ∧ w'.cell? ⟨(ad1.add ((x5_1).toNat * 4)).block,(ad1.add ((x5_1).toNat * 4)).off + 2,none⟩ = some (.int .i64 ((rd_T75 l0 x5_1).f2)) ∧ w'.cell? ⟨(ad1.add ((x5_1).toNat * 4)).block,(ad1.add ((x5_1).toNat * 4)).off + 3,none⟩ = some (.int .i64 ((rd_T75 l0 x5_1).f3)) ∧ w'.cell? (ad2.add ((x5_1).toNat * 4)) = some (.int .i64 ((rd_T75 l1 x5_1).f0)) ∧ w'.cell? ⟨(ad2.add ((x5_1).toNat * 4)).block,(ad2.add ((x5_1).toNat * 4)).off + 1,none⟩ = some (.int .i64 ((rd_T75 l1 x5_1).f1)) ∧ w'.cell? ⟨(ad2.add ((x5_1).toNat * 4)).block,(ad2.add ((x5_1).toNat * 4)).off + 2,none⟩ = some (.int .i64 ((rd_T75 l1 x5_1).f2)) ∧ w'.cell? ⟨(ad2.add ((x5_1).toNat * 4)).block,(ad2.add ((x5_1).toNat * 4)).off + 3,none⟩ = some (.int .i64 ((rd_T75 l1 x5_1).f3))) (ds:=[]) #[false,false,false,false,false,false,false,false,false,false] (by kernel_rfl) rfl rfl ⟨((HB.out.cell (World.block_lt_of_cell? w _ hw1_0)).trans hw1_0),((HB.out.cell (World.block_lt_of_cell? w _ hw1_1)).trans hw1_1),((HB.out.cell (World.block_lt_of_cell? w _ hw1_2)).trans hw1_2),((HB.out.cell (World.block_lt_of_cell? w _ hw1_3)).trans hw1_3),((HB.out.cell (World.block_lt_of_cell? w _ hw2_0)).trans hw2_0),((HB.out.cell (World.block_lt_of_cell? w _ hw2_1)).trans hw2_1),((HB.out.cell (World.block_lt_of_cell? w _ hw2_2)).trans hw2_2),((HB.out.cell (World.block_lt_of_cell? w _ hw2_3)).trans hw2_3)⟩ (fun hHeld=>?_);refine with_tabW laws_eqLineS.tab6 laws_eqLineS.bits6 (fun HT_ HW_=>?_)
        generalize wr.drew = w9 at HB hx1_0 hx1_1 hx1_2 hx1_3 hx2_0 hx2_1 hx2_2 hx2_3 hHeld ⊢
        refine pure_ (i:=0) (N:=some 17) (v:=?_) (a':=?_) #[true,false,false,false,false,false,false,false,false,false] rfl rfl (any_of HT_.out (by kernel_rfl)) (fun _ _ _ h=>h) (Or.inl ⟨by rfl,?_⟩) ?_ ?_
        rotate_left
        ·intro w'
         go_simp
         with_reducible rfl
        rotate_left
        ·simp only [Act.put,s1_,s2_,s3_,i64_w,i32_w]
         rfl
        refine pure_ (i:=1) (N:=some 18) (v:=?_) (a':=?_) #[true,true,false,false,false,false,false,false,false,false] rfl rfl (any_of HT_.out (by kernel_rfl)) (fun _ _ _ h=>h) (Or.inl ⟨by rfl,?_⟩) ?_ ?_
        rotate_left
        ·intro w'
         go_simp
         with_reducible rfl
        rotate_left
        ·simp only [Act.put,s1_,s2_,s3_,i64_w,i32_w]
         rfl
        refine pure_ (i:=2) (N:=some 19) (v:=?_) (a':=?_) #[true,true,true,false,false,false,false,false,false,false] rfl rfl (any_of HT_.out (by kernel_rfl)) (fun _ _ _ h=>h) (Or.inl ⟨by rfl,?_⟩) ?_ ?_
        rotate_left
        ·intro w'
         go_simp
         with_reducible rfl
        rotate_left
        ·simp only [Act.put,s1_,s2_,s3_,i64_w,i32_w]
         rfl
        refine pure_ (i:=4) (N:=some 21) (v:=?_) (a':=?_) #[true,true,true,false,true,false,false,false,false,false] rfl rfl (any_of HT_.out (by kernel_rfl)) (fun _ _ _ h=>h) (Or.inl ⟨by rfl,?_⟩) ?_ ?_
        rotate_left
        ·intro w'
         go_simp
         with_reducible rfl
        rotate_left
        ·simp only [Act.put,s1_,s2_,s3_,i64_w,i32_w]
         rfl
        refine pure_ (i:=5) (N:=some 22) (v:=?_) (a':=?_) #[true,true,true,false,true,true,false,false,false,false] rfl rfl (any_of HT_.out (by kernel_rfl)) (fun _ _ _ h=>h) (Or.inl ⟨by rfl,?_⟩) ?_ ?_
        rotate_left
        ·intro w'
         go_simp
         with_reducible rfl
        rotate_left
        ·simp only [Act.put,s1_,s2_,s3_,i64_w,i32_w]
         rfl
        refine pure_ (i:=6) (N:=some 23) (v:=?_) (a':=?_) #[true,true,true,false,true,true,true,false,false,false] rfl rfl (any_of HT_.out (by kernel_rfl)) (fun _ _ _ h=>h) (Or.inl ⟨by rfl,?_⟩) ?_ ?_
        rotate_left
        ·intro w'
         go_simp
         with_reducible rfl
        rotate_left
        ·simp only [Act.put,s1_,s2_,s3_,i64_w,i32_w]
         rfl
        refine take_ (i:=3) (N:=some 20) (v:=?_) (a':=?_) #[true,true,true,true,true,true,true,false,false,false] rfl rfl (take_ofW HT_.out HW_.out (by kernel_rfl)) (fun _ _ _ h=>h) (Or.inl ⟨by rfl,?_⟩) hHeld ?_ ?_
        rotate_left
        ·rintro w' ⟨s0,s1,s2,s3,s4,s5,s6,s7⟩
         go_simp
         with_reducible rfl
        rotate_left
        ·simp only [Act.put,s1_,s2_,s3_,i64_w,i32_w]
         rfl
        refine take_ (i:=7) (N:=some 24) (v:=?_) (a':=?_) #[true,true,true,true,true,true,true,true,false,false] rfl rfl (take_ofW HT_.out HW_.out (by kernel_rfl)) (fun _ _ _ h=>h) (Or.inl ⟨by rfl,?_⟩) hHeld ?_ ?_
        rotate_left
        ·rintro w' ⟨s0,s1,s2,s3,s4,s5,s6,s7⟩
         go_simp
         with_reducible rfl
        rotate_left
        ·simp only [Act.put,s1_,s2_,s3_,i64_w,i32_w]
         rfl
        refine one_ (i:=8) (N:=some 25) #[true,true,true,true,true,true,true,true,true,false] rfl rfl (one_of HT_.out (by kernel_rfl)) (by decide) (fun K hK=>?_)
        refine goes_ Try.func101 (by kernel_rfl) rfl #[.agg #[.int .i64 ((rd_T75 l0 x5_1).f0),.int .i64 ((rd_T75 l0 x5_1).f1),.int .i64 ((rd_T75 l0 x5_1).f2),.int .i64 ((rd_T75 l0 x5_1).f3)],.agg #[.int .i64 ((rd_T75 l1 x5_1).f0),.int .i64 ((rd_T75 l1 x5_1).f1),.int .i64 ((rd_T75 l1 x5_1).f2),.int .i64 ((rd_T75 l1 x5_1).f3)]] (by rfl) rfl rfl lm_ ?_
        with_reducible refine (laws_eqLine.calls ((rd_T75 l0 x5_1).f0) ((rd_T75 l0 x5_1).f1) ((rd_T75 l0 x5_1).f2) ((rd_T75 l0 x5_1).f3) ((rd_T75 l1 x5_1).f0) ((rd_T75 l1 x5_1).f1) ((rd_T75 l1 x5_1).f2) ((rd_T75 l1 x5_1).f3) true _ A7.out).mono ?_
        rintro e w10 ⟨rfl,hb⟩
        refine ⟨_,rfl,?_⟩
        have n0_:=a0_ (below_step hbw_ hb)
        clear HB
        have HB:=n0_
        clear n0_
        (try clear hb)
        (try clear hb2)
        (try clear hk)
        (try clear hi)
        refine hK.out _ _ ⟨((HB.out.cell (World.block_lt_of_cell? w _ hw1_0)).trans hw1_0),((HB.out.cell (World.block_lt_of_cell? w _ hw1_1)).trans hw1_1),((HB.out.cell (World.block_lt_of_cell? w _ hw1_2)).trans hw1_2),((HB.out.cell (World.block_lt_of_cell? w _ hw1_3)).trans hw1_3),((HB.out.cell (World.block_lt_of_cell? w _ hw2_0)).trans hw2_0),((HB.out.cell (World.block_lt_of_cell? w _ hw2_1)).trans hw2_1),((HB.out.cell (World.block_lt_of_cell? w _ hw2_2)).trans hw2_2),((HB.out.cell (World.block_lt_of_cell? w _ hw2_3)).trans hw2_3)⟩ (fun hHeld=>?_)
        clear hK K
        refine norm_ (a':=?_) ?_ ?_
        rotate_left
        ·show Act.put _ (some 25) _ = _
         simp only [Act.put,s1_,s2_,s3_,i64_w,i32_w]
         rfl
        refine pure_ (i:=9) (N:=some 26) (v:=?_) (a':=?_) #[true,true,true,true,true,true,true,true,true,true] rfl rfl (any_of HT_.out (by kernel_rfl)) (fun _ _ _ h=>h) (Or.inl ⟨by rfl,?_⟩) ?_ ?_
        rotate_left
        ·intro w'
         go_simp
         with_reducible rfl
        rotate_left
        ·simp only [Act.put,s1_,s2_,s3_,i64_w,i32_w]
         rfl
        refine done_ (done_of HT_.out (by kernel_rfl)) ?_
        try go_wp2
        go_roundg k1
        case measure=>have:=HK1.out;omega
        case rel=>exact ⟨(wrap64 (x5_1 + 1)),(by first | rfl | (simp;done) | (simp [*];done)),H',⟨by have:=HK1.out;omega⟩,⟨hbw_⟩⟩
       ·replace c8:=Bool.eq_false_iff.mpr c8
        subst c8
        have H1 : (some false) = some r:=by rw [if_neg (show ¬ (false = true) by decide)] at H;exact H
        clear H
        have H:=H1
        clear H1
        obtain rfl:=Option.some.inj H
        try go_wp2
        have n0_:=a0_ (below_drew1 HB.out)
        clear HB
        have HB:=n0_
        clear n0_
        have p1 : 0 ≤ (x5_1 : Int):=of_decide_eq_true (by first | (with_reducible assumption) | assumption)
        have q1 : x5_1 < (l0.length : Int):=of_decide_eq_true (by first | (with_reducible assumption) | assumption)
        obtain ⟨ad1,e1,hx1_0,hx1_1,hx1_2,hx1_3⟩:=at_T75 HR0.out x5_1 p1 q1
        have hw1_3:=hx1_3
        have hw1_2:=hx1_2
        have hw1_1:=hx1_1
        have hw1_0:=hx1_0
        cases e1
        replace hx1_0:=(HB.out.cell (World.block_lt_of_cell? w _ hx1_0)).trans hx1_0
        replace hx1_1:=(HB.out.cell (World.block_lt_of_cell? w _ hx1_1)).trans hx1_1
        replace hx1_2:=(HB.out.cell (World.block_lt_of_cell? w _ hx1_2)).trans hx1_2
        replace hx1_3:=(HB.out.cell (World.block_lt_of_cell? w _ hx1_3)).trans hx1_3
        replace p1:=eq_true p1
        replace q1:=eq_true q1
        have p2 : 0 ≤ (x5_1 : Int):=of_decide_eq_true (by first | (with_reducible assumption) | assumption)
        have q2 : x5_1 < (l1.length : Int):=of_decide_eq_true (by first | (with_reducible assumption) | assumption)
        obtain ⟨ad2,e2,hx2_0,hx2_1,hx2_2,hx2_3⟩:=at_T75 HR1.out x5_1 p2 q2
        have hw2_3:=hx2_3
        have hw2_2:=hx2_2
        have hw2_1:=hx2_1
        have hw2_0:=hx2_0
        cases e2
        replace hx2_0:=(HB.out.cell (World.block_lt_of_cell? w _ hx2_0)).trans hx2_0
        replace hx2_1:=(HB.out.cell (World.block_lt_of_cell? w _ hx2_1)).trans hx2_1
        replace hx2_2:=(HB.out.cell (World.block_lt_of_cell? w _ hx2_2)).trans hx2_2
        replace hx2_3:=(HB.out.cell (World.block_lt_of_cell? w _ hx2_3)).trans hx2_3
        replace p2:=eq_true p2
        replace q2:=eq_true q2
        refine start_ (n:=10) (S:=fun w'=>w'.cell? (ad1.add ((x5_1).toNat * 4)) = some (.int .i64 ((rd_T75 l0 x5_1).f0)) ∧ w'.cell? ⟨(ad1.add ((x5_1).toNat * 4)).block,(ad1.add ((x5_1).toNat * 4)).off + 1,none⟩ = some (.int .i64 ((rd_T75 l0 x5_1).f1)) ∧ w'.cell? ⟨(ad1.add ((x5_1).toNat * 4)).block,(ad1.add ((x5_1).toNat * 4)).off + 2,none⟩ = some (.int .i64 ((rd_T75 l0 x5_1).f2)) ∧ w'.cell? ⟨(ad1.add ((x5_1).toNat * 4)).block,(ad1.add ((x5_1).toNat * 4)).off + 3,none⟩ = some (.int .i64 ((rd_T75 l0 x5_1).f3)) ∧ w'.cell? (ad2.add ((x5_1).toNat * 4)) = some (.int .i64 ((rd_T75 l1 x5_1).f0)) ∧ w'.cell? ⟨(ad2.add ((x5_1).toNat * 4)).block,(ad2.add ((x5_1).toNat * 4)).off + 1,none⟩ = some (.int .i64 ((rd_T75 l1 x5_1).f1)) ∧ w'.cell? ⟨(ad2.add ((x5_1).toNat * 4)).block,(ad2.add ((x5_1).toNat * 4)).off + 2,none⟩ = some (.int .i64 ((rd_T75 l1 x5_1).f2)) ∧ w'.cell? ⟨(ad2.add ((x5_1).toNat * 4)).block,(ad2.add ((x5_1).toNat * 4)).off + 3,none⟩ = some (.int .i64 ((rd_T75 l1 x5_1).f3))) (ds:=[]) #[false,false,false,false,false,false,false,false,false,false] (by kernel_rfl) rfl rfl ⟨((HB.out.cell (World.block_lt_of_cell? w _ hw1_0)).trans hw1_0),((HB.out.cell (World.block_lt_of_cell? w _ hw1_1)).trans hw1_1),((HB.out.cell (World.block_lt_of_cell? w _ hw1_2)).trans hw1_2),((HB.out.cell (World.block_lt_of_cell? w _ hw1_3)).trans hw1_3),((HB.out.cell (World.block_lt_of_cell? w _ hw2_0)).trans hw2_0),((HB.out.cell (World.block_lt_of_cell? w _ hw2_1)).trans hw2_1),((HB.out.cell (World.block_lt_of_cell? w _ hw2_2)).trans hw2_2),((HB.out.cell (World.block_lt_of_cell? w _ hw2_3)).trans hw2_3)⟩ (fun hHeld=>?_);refine with_tabW laws_eqLineS.tab6 laws_eqLineS.bits6 (fun HT_ HW_=>?_)
        generalize wr.drew = w11 at HB hx1_0 hx1_1 hx1_2 hx1_3 hx2_0 hx2_1 hx2_2 hx2_3 hHeld ⊢
        refine pure_ (i:=0) (N:=some 17) (v:=?_) (a':=?_) #[true,false,false,false,false,false,false,false,false,false] rfl rfl (any_of HT_.out (by kernel_rfl)) (fun _ _ _ h=>h) (Or.inl ⟨by rfl,?_⟩) ?_ ?_
        rotate_left
        ·intro w'
         go_simp
         with_reducible rfl
        rotate_left
        ·simp only [Act.put,s1_,s2_,s3_,i64_w,i32_w]
         rfl
        refine pure_ (i:=1) (N:=some 18) (v:=?_) (a':=?_) #[true,true,false,false,false,false,false,false,false,false] rfl rfl (any_of HT_.out (by kernel_rfl)) (fun _ _ _ h=>h) (Or.inl ⟨by rfl,?_⟩) ?_ ?_
        rotate_left
        ·intro w'
         go_simp
         with_reducible rfl
        rotate_left
        ·simp only [Act.put,s1_,s2_,s3_,i64_w,i32_w]
         rfl
        refine pure_ (i:=2) (N:=some 19) (v:=?_) (a':=?_) #[true,true,true,false,false,false,false,false,false,false] rfl rfl (any_of HT_.out (by kernel_rfl)) (fun _ _ _ h=>h) (Or.inl ⟨by rfl,?_⟩) ?_ ?_
        rotate_left
        ·intro w'
         go_simp
         with_reducible rfl
        rotate_left
        ·simp only [Act.put,s1_,s2_,s3_,i64_w,i32_w]
         rfl
        refine pure_ (i:=4) (N:=some 21) (v:=?_) (a':=?_) #[true,true,true,false,true,false,false,false,false,false] rfl rfl (any_of HT_.out (by kernel_rfl)) (fun _ _ _ h=>h) (Or.inl ⟨by rfl,?_⟩) ?_ ?_
        rotate_left
        ·intro w'
         go_simp
         with_reducible rfl
        rotate_left
        ·simp only [Act.put,s1_,s2_,s3_,i64_w,i32_w]
         rfl
        refine pure_ (i:=5) (N:=some 22) (v:=?_) (a':=?_) #[true,true,true,false,true,true,false,false,false,false] rfl rfl (any_of HT_.out (by kernel_rfl)) (fun _ _ _ h=>h) (Or.inl ⟨by rfl,?_⟩) ?_ ?_
        rotate_left
        ·intro w'
         go_simp
         with_reducible rfl
        rotate_left
        ·simp only [Act.put,s1_,s2_,s3_,i64_w,i32_w]
         rfl
        refine pure_ (i:=6) (N:=some 23) (v:=?_) (a':=?_) #[true,true,true,false,true,true,true,false,false,false] rfl rfl (any_of HT_.out (by kernel_rfl)) (fun _ _ _ h=>h) (Or.inl ⟨by rfl,?_⟩) ?_ ?_
        rotate_left
        ·intro w'
         go_simp
         with_reducible rfl
        rotate_left
        ·simp only [Act.put,s1_,s2_,s3_,i64_w,i32_w]
         rfl
        refine take_ (i:=3) (N:=some 20) (v:=?_) (a':=?_) #[true,true,true,true,true,true,true,false,false,false] rfl rfl (take_ofW HT_.out HW_.out (by kernel_rfl)) (fun _ _ _ h=>h) (Or.inl ⟨by rfl,?_⟩) hHeld ?_ ?_
        rotate_left
        ·rintro w' ⟨s0,s1,s2,s3,s4,s5,s6,s7⟩
         go_simp
         with_reducible rfl
        rotate_left
        ·simp only [Act.put,s1_,s2_,s3_,i64_w,i32_w]
         rfl
        refine take_ (i:=7) (N:=some 24) (v:=?_) (a':=?_) #[true,true,true,true,true,true,true,true,false,false] rfl rfl (take_ofW HT_.out HW_.out (by kernel_rfl)) (fun _ _ _ h=>h) (Or.inl ⟨by rfl,?_⟩) hHeld ?_ ?_
        rotate_left
        ·rintro w' ⟨s0,s1,s2,s3,s4,s5,s6,s7⟩
         go_simp
         with_reducible rfl
        rotate_left
        ·simp only [Act.put,s1_,s2_,s3_,i64_w,i32_w]
         rfl
        refine one_ (i:=8) (N:=some 25) #[true,true,true,true,true,true,true,true,true,false] rfl rfl (one_of HT_.out (by kernel_rfl)) (by decide) (fun K hK=>?_)
        refine goes_ Try.func101 (by kernel_rfl) rfl #[.agg #[.int .i64 ((rd_T75 l0 x5_1).f0),.int .i64 ((rd_T75 l0 x5_1).f1),.int .i64 ((rd_T75 l0 x5_1).f2),.int .i64 ((rd_T75 l0 x5_1).f3)],.agg #[.int .i64 ((rd_T75 l1 x5_1).f0),.int .i64 ((rd_T75 l1 x5_1).f1),.int .i64 ((rd_T75 l1 x5_1).f2),.int .i64 ((rd_T75 l1 x5_1).f3)]] (by rfl) rfl rfl lm_ ?_
        with_reducible refine (laws_eqLine.calls ((rd_T75 l0 x5_1).f0) ((rd_T75 l0 x5_1).f1) ((rd_T75 l0 x5_1).f2) ((rd_T75 l0 x5_1).f3) ((rd_T75 l1 x5_1).f0) ((rd_T75 l1 x5_1).f1) ((rd_T75 l1 x5_1).f2) ((rd_T75 l1 x5_1).f3) false _ A7.out).mono ?_
        rintro e w12 ⟨rfl,hb⟩
        refine ⟨_,rfl,?_⟩
        have n0_:=a0_ (below_step hbw_ hb)
        clear HB
        have HB:=n0_
        clear n0_
        (try clear hb)
        (try clear hb2)
        (try clear hk)
        (try clear hi)
        refine hK.out _ _ ⟨((HB.out.cell (World.block_lt_of_cell? w _ hw1_0)).trans hw1_0),((HB.out.cell (World.block_lt_of_cell? w _ hw1_1)).trans hw1_1),((HB.out.cell (World.block_lt_of_cell? w _ hw1_2)).trans hw1_2),((HB.out.cell (World.block_lt_of_cell? w _ hw1_3)).trans hw1_3),((HB.out.cell (World.block_lt_of_cell? w _ hw2_0)).trans hw2_0),((HB.out.cell (World.block_lt_of_cell? w _ hw2_1)).trans hw2_1),((HB.out.cell (World.block_lt_of_cell? w _ hw2_2)).trans hw2_2),((HB.out.cell (World.block_lt_of_cell? w _ hw2_3)).trans hw2_3)⟩ (fun hHeld=>?_)
        clear hK K
        refine norm_ (a':=?_) ?_ ?_
        rotate_left
        ·show Act.put _ (some 25) _ = _
         simp only [Act.put,s1_,s2_,s3_,i64_w,i32_w]
         rfl
        refine pure_ (i:=9) (N:=some 26) (v:=?_) (a':=?_) #[true,true,true,true,true,true,true,true,true,true] rfl rfl (any_of HT_.out (by kernel_rfl)) (fun _ _ _ h=>h) (Or.inl ⟨by rfl,?_⟩) ?_ ?_
        rotate_left
        ·intro w'
         go_simp
         with_reducible rfl
        rotate_left
        ·simp only [Act.put,s1_,s2_,s3_,i64_w,i32_w]
         rfl
        refine done_ (done_of HT_.out (by kernel_rfl)) ?_
        try go_wp2
        go_ret
        exact ⟨by first | rfl | (simp [errW_none,errW_some] <;> rfl) | (simp [*,errW_none,errW_some] <;> rfl),hbw_⟩
      ·rw [if_neg c6] at H
       exact absurd H (by simp)
     ·rw [if_neg c5] at H
      exact absurd H (by simp)
    ·rw [if_neg c4] at H
     have c4b0 : decide (x5_1 < (l0.length : Int)) = false:=decide_eq_false c4
     clear c4
     obtain rfl:=Option.some.inj H
     go_wp2
     go_ret
     exact ⟨by first | rfl | (simp [errW_none,errW_some] <;> rfl) | (simp [*,errW_none,errW_some] <;> rfl),hbw_⟩
 ·rw [if_neg c3] at H
  have c3b0 : ((l0.length : Int) == (l1.length : Int)) = false:=beq_eq_false_iff_ne.mpr c3
  have c3b1 : ((l0.length : Int) != (l1.length : Int)) = true:=bne_iff_ne.mpr c3
  have c3b2 : (l0.length == l1.length) = false:=by first | simpa using c3 | (simp at c3 ⊢;omega)
  obtain rfl:=Option.some.inj H
  go_enter Try.func46,Try.ntmps46
  go_wp2
  go_ret
  exact ⟨by first | rfl | (simp [errW_none,errW_some] <;> rfl) | (simp [*,errW_none,errW_some] <;> rfl),hbw_⟩
theorem laws_eqLineS_ev (l : List S75) (hl : l.length ≤ 9223372036854775807) : Ev (fun k=>laws_eqLineS.f k l l) true:=by
 have h:=st_loop (fun k (_ : Unit) i=>laws_eqLineS.l0 k l l i) l.length (fun _=>()) true (by
  intro k i hi
  have he : ∀ x : S75,laws_eqLine.f x.f0 x.f1 x.f2 x.f3 x.f0 x.f1 x.f2 x.f3 = some true:=by
   intro x
   simp [laws_eqLine.f]
  simp only [laws_eqLineS.l0,he,Option.bind_some]
  rw [if_pos (by omega),if_pos (by omega),if_pos (by omega),if_pos trivial,wrap_succ (i:=(i : Int)) (n:=l.length) (by omega) (by omega) (by omega)]
  rfl) (by
  intro k
  simp only [laws_eqLineS.l0]
  rw [if_neg (by omega)])
 refine Ev.of_mono (laws_eqLineS.mono l l) (K:=l.length + 1) ?_
 unfold laws_eqLineS.f
 rw [if_pos rfl]
 exact h
end Go.Proofs.Ytacgehaipacehaa.P
namespace Go.Proofs.Ytacgehaipacehaa.P
open Go.RowKit Go.Proofs.YtacgehaipacehaaW.PrintWords Go.Proofs.YtacgehaipacehaaW.PrintLast Go.Proofs.YtacgehaipacehaaW.PrintMore
attribute [local go_sem] max2_int min2_int max_two min_two max_three min_three max_four min_four
set_option linter.unusedVariables false
set_option linter.unusedSimpArgs false
def laws_FnExactValidProgram.f (k : Nat) (l0_0 : List (S153)) (l1 : List (S129)) : Option (Bool):=(laws_szTree.f k l0_0 1048576).bind fun t2=>(if t2 < 0 then (some true) else ((laws_szLineS.f l1 t2).bind fun t3=>(if t3 < 0 then (some true) else ((laws_toTree.f k l0_0).bind fun t4=>((laws_toLineS.f k l1).bind fun t7=>((spec_ValidProgram.f k t4 t7).bind fun t10=>((laws_toTree.f k l0_0).bind fun t11=>((laws_toLineS.f k l1).bind fun t15=>((impl_ValidProgram.f k t11 t15).bind fun t18=>(if (t18 != t10) = true then (some false) else ((laws_toTree.f k l0_0).bind fun t19=>((laws_eqTree.f k t11 t19).bind fun t22=>(if t22 = true then ((laws_toLineS.f k l1).bind fun t23=>((laws_eqLineS.f k t15 t23).bind fun t26=>(if t26 = true then (some true) else (some false)))) else (some false))))))))))))))
theorem laws_FnExactValidProgram.mono : ∀ a0 a1 k,LeO (laws_FnExactValidProgram.f k a0 a1) (laws_FnExactValidProgram.f (k + 1) a0 a1):=by
 intro a0 a1 k
 unfold laws_FnExactValidProgram.f
 repeat' first
   | (with_reducible exact impl_ValidProgram.mono _ _ _)
   | (with_reducible exact laws_eqLineS.mono _ _ _)
   | (with_reducible exact laws_eqTree.mono _ _ _)
   | (with_reducible exact laws_szTree.mono _ _ _)
   | (with_reducible exact laws_toLineS.mono _ _)
   | (with_reducible exact laws_toTree.mono _ _)
   | (with_reducible exact spec_ValidProgram.mono _ _ _)
   | (with_reducible exact LeO.refl _)
   | (with_reducible exact LeO.none _)
   | (with_reducible refine LeO.ite ?_ ?_)
   | (with_reducible refine LeO.bind ?_ (fun _=>?_))
   | exact impl_ValidProgram.mono _ _ _
   | exact laws_eqLineS.mono _ _ _
   | exact laws_eqTree.mono _ _ _
   | exact laws_szTree.mono _ _ _
   | exact laws_toLineS.mono _ _
   | exact laws_toTree.mono _ _
   | exact spec_ValidProgram.mono _ _ _
   | exact LeO.none _
   | refine LeO.ite ?_ ?_
   | refine LeO.bind ?_ (fun _=>?_)
set_option maxHeartbeats 8000000 in
set_option maxRecDepth 100000 in
theorem laws_FnExactValidProgram.calls (k : Nat) (A0_0 : Option Addr) (c0_0 : Nat) (l0_0 : List (S153)) (A1 : Option Addr) (c1 : Nat) (l1 : List (S129)) (r : Bool) (w : World) (hr0_0 : Kd.C k153 w A0_0 l0_0.length l0_0) (hc0_0 : l0_0.length ≤ c0_0) (hr1 : Kd.C k129 w A1 l1.length l1) (hc1 : l1.length ≤ c1) (h : laws_FnExactValidProgram.f k l0_0 l1 = some r) :
  Calls Try.prog 7 #[.agg #[.slice A0_0 l0_0.length c0_0],.slice A1 l1.length c1] w fun e w'=>e = .returned (.bool r) ∧ Below w.heap.size w w':=by
 have hu38:=Try.underlying38
 have hu25:=Try.underlying25
 have HR0_0:=a0_ hr0_0
 have HC0_0:=a0_ hc0_0
 clear hr0_0 hc0_0
 have HR1:=a0_ hr1
 have HC1:=a0_ hc1
 clear hr1 hc1
 have HB:=a0_ (Below.refl w.heap.size w)
 have H : ((laws_szTree.f k l0_0 1048576).bind fun t2=>(if t2 < 0 then (some true) else ((laws_szLineS.f l1 t2).bind fun t3=>(if t3 < 0 then (some true) else ((laws_toTree.f k l0_0).bind fun t4=>((laws_toLineS.f k l1).bind fun t7=>((spec_ValidProgram.f k t4 t7).bind fun t10=>((laws_toTree.f k l0_0).bind fun t11=>((laws_toLineS.f k l1).bind fun t15=>((impl_ValidProgram.f k t11 t15).bind fun t18=>(if (t18 != t10) = true then (some false) else ((laws_toTree.f k l0_0).bind fun t19=>((laws_eqTree.f k t11 t19).bind fun t22=>(if t22 = true then ((laws_toLineS.f k l1).bind fun t23=>((laws_eqLineS.f k t15 t23).bind fun t26=>(if t26 = true then (some true) else (some false)))) else (some false))))))))))))))) = some r:=h
 clear h
 replace H:=Option.bind_eq_some_iff.mp H
 obtain ⟨t2,A30,H⟩:=H
 try dsimp only at H
 have A3:=a0_ A30
 clear A30
 by_cases c4 : t2 < 0
 ·rw [if_pos c4] at H
  have c4b0 : decide (t2 < 0) = true:=decide_eq_true c4
  clear c4
  obtain rfl:=Option.some.inj H
  go_enter Try.func7,Try.ntmps7
  go_wp2_with (first | ((with_reducible refine gate_dst (N:=2) rfl ?_);refine box_event ?hg (N:=2) ?hd (cs:=#[.slice A0_0 l0_0.length c0_0]) (t:=38) ?hr ?_;(case hd=>rfl);(case hg=>rfl);(case hr=>first | (go_simp;done) | (go_simp;rfl));intro gb1 hg w5 hbox hb;have BK1:=a0_ (hbox);have GW1:=a0_ ((by rw [hg];exact (below_size hbw_) : w.heap.size ≤ gb1));have GE1:=a0_ ((by rw [hg];exact (below_size hbw_) : w.heap.size ≤ gb1));replace HB:=a0_ (below_step hbw_ hb);clear hb hbox hg;have hcz6_0 : w5.cell? ⟨gb1,0,none⟩ = some (.slice A0_0 l0_0.length c0_0):=(blk_cell BK1.out 0).trans rfl;have hfz6_0:=blk_frozen BK1.out 0) | ((with_reducible refine gate_callee (f:=21) rfl ?_);refine goesL_ (some 12) rfl rfl Try.func21 (by kernel_rfl) rfl #[.agg #[.slice A0_0 l0_0.length c0_0],.int .i64 1048576] rfl lm_ ?_;(with_reducible refine (laws_szTree.calls k _ _ l0_0 1048576 t2 _ ?side1 ?side2 A3.out).mono ?_);(case side1=>exact cc_ (Kd.C_below HR0_0.out HB.out));(case side2=>exact HC0_0.out);rintro e w7 ⟨rfl,hb⟩;refine ⟨_,rfl,?_⟩;replace BK1:=kb_ BK1 hb;replace HB:=a0_ (below_step hbw_ hb);(try clear hb);(try clear hb2);(try clear hk);(try clear hi)))
  go_ret
  exact ⟨by first | rfl | (simp [errW_none,errW_some] <;> rfl) | (simp [*,errW_none,errW_some] <;> rfl),hbw_⟩
 ·rw [if_neg c4] at H
  have c4b0 : decide (t2 < 0) = false:=decide_eq_false c4
  clear c4
  replace H:=Option.bind_eq_some_iff.mp H
  obtain ⟨t3,A80,H⟩:=H
  try dsimp only at H
  have A8:=a0_ A80
  clear A80
  by_cases c9 : t3 < 0
  ·rw [if_pos c9] at H
   have c9b0 : decide (t3 < 0) = true:=decide_eq_true c9
   clear c9
   obtain rfl:=Option.some.inj H
   go_enter Try.func7,Try.ntmps7
   go_wp2_with (first | ((with_reducible refine gate_dst (N:=2) rfl ?_);refine box_event ?hg (N:=2) ?hd (cs:=#[.slice A0_0 l0_0.length c0_0]) (t:=38) ?hr ?_;(case hd=>rfl);(case hg=>rfl);(case hr=>first | (go_simp;done) | (go_simp;rfl));intro gb1 hg w10 hbox hb;have BK1:=a0_ (hbox);have GW1:=a0_ ((by rw [hg];exact (below_size hbw_) : w.heap.size ≤ gb1));have GE1:=a0_ ((by rw [hg];exact (below_size hbw_) : w.heap.size ≤ gb1));replace HB:=a0_ (below_step hbw_ hb);clear hb hbox hg;have hcz11_0 : w10.cell? ⟨gb1,0,none⟩ = some (.slice A0_0 l0_0.length c0_0):=(blk_cell BK1.out 0).trans rfl;have hfz11_0:=blk_frozen BK1.out 0) | ((with_reducible refine gate_callee (f:=21) rfl ?_);refine goesL_ (some 12) rfl rfl Try.func21 (by kernel_rfl) rfl #[.agg #[.slice A0_0 l0_0.length c0_0],.int .i64 1048576] rfl lm_ ?_;(with_reducible refine (laws_szTree.calls k _ _ l0_0 1048576 t2 _ ?side1 ?side2 A3.out).mono ?_);(case side1=>exact cc_ (Kd.C_below HR0_0.out HB.out));(case side2=>exact HC0_0.out);rintro e w12 ⟨rfl,hb⟩;refine ⟨_,rfl,?_⟩;replace BK1:=kb_ BK1 hb;replace HB:=a0_ (below_step hbw_ hb);(try clear hb);(try clear hb2);(try clear hk);(try clear hi)) | ((with_reducible refine gate_callee (f:=42) rfl ?_);refine goesL_ (some 17) rfl rfl Try.func42 (by kernel_rfl) rfl #[.slice A1 l1.length c1,.int .i64 t2] rfl lm_ ?_;(with_reducible refine (laws_szLineS.calls _ _ l1 t2 t3 _ ?side1 ?side2 A8.out).mono ?_);(case side1=>exact cc_ (Kd.C_below HR1.out HB.out));(case side2=>exact HC1.out);rintro e w' ⟨rfl,⟨nd,rfl⟩⟩;refine ⟨_,rfl,?_⟩))
   go_ret
   exact ⟨by first | rfl | (simp [errW_none,errW_some] <;> rfl) | (simp [*,errW_none,errW_some] <;> rfl),hbw_⟩
  ·rw [if_neg c9] at H
   have c9b0 : decide (t3 < 0) = false:=decide_eq_false c9
   clear c9
   replace H:=Option.bind_eq_some_iff.mp H
   obtain ⟨t4,A130,H⟩:=H
   try dsimp only at H
   have A13:=a0_ A130
   clear A130
   replace H:=Option.bind_eq_some_iff.mp H
   obtain ⟨t7,A140,H⟩:=H
   try dsimp only at H
   have A14:=a0_ A140
   clear A140
   replace H:=Option.bind_eq_some_iff.mp H
   obtain ⟨t10,A150,H⟩:=H
   try dsimp only at H
   have A15:=a0_ A150
   clear A150
   replace H:=Option.bind_eq_some_iff.mp H
   obtain ⟨t11,A160,H⟩:=H
   try dsimp only at H
   have A16:=a0_ A160
   clear A160
   replace H:=Option.bind_eq_some_iff.mp H
   obtain ⟨t15,A170,H⟩:=H
   try dsimp only at H
   have A17:=a0_ A170
   clear A170
   replace H:=Option.bind_eq_some_iff.mp H
   obtain ⟨t18,A180,H⟩:=H
   try dsimp only at H
   have A18:=a0_ A180
   clear A180
   by_cases c19 : (t18 != t10) = true
   ·rw [if_pos c19] at H
    have c19b0 : (t18 != t10) = true:=c19
    (try (have c19b1 : decide (t18 = t10) = false:=by simpa using c19))
    (try (have c19b2 : (t18 == t10) = false:=by simpa using c19))
    (try (have c19b3 : ¬ (t18 = t10):=by simpa using c19))
    clear c19
    obtain rfl:=Option.some.inj H
    go_enter Try.func7,Try.ntmps7
    go_wp2_with (first | ((with_reducible refine gate_dst (N:=2) rfl ?_);refine box_event ?hg (N:=2) ?hd (cs:=#[.slice A0_0 l0_0.length c0_0]) (t:=38) ?hr ?_;(case hd=>rfl);(case hg=>rfl);(case hr=>first | (go_simp;done) | (go_simp;rfl));intro gb1 hg w20 hbox hb;have BK1:=a0_ (hbox);have GW1:=a0_ ((by rw [hg];exact (below_size hbw_) : w.heap.size ≤ gb1));have GE1:=a0_ ((by rw [hg];exact (below_size hbw_) : w.heap.size ≤ gb1));replace HB:=a0_ (below_step hbw_ hb);clear hb hbox hg;have hcz21_0 : w20.cell? ⟨gb1,0,none⟩ = some (.slice A0_0 l0_0.length c0_0):=(blk_cell BK1.out 0).trans rfl;have hfz21_0:=blk_frozen BK1.out 0) | ((with_reducible refine gate_callee (f:=21) rfl ?_);refine goesL_ (some 12) rfl rfl Try.func21 (by kernel_rfl) rfl #[.agg #[.slice A0_0 l0_0.length c0_0],.int .i64 1048576] rfl lm_ ?_;(with_reducible refine (laws_szTree.calls k _ _ l0_0 1048576 t2 _ ?side1 ?side2 A3.out).mono ?_);(case side1=>exact cc_ (Kd.C_below HR0_0.out HB.out));(case side2=>exact HC0_0.out);rintro e w22 ⟨rfl,hb⟩;refine ⟨_,rfl,?_⟩;replace BK1:=kb_ BK1 hb;replace HB:=a0_ (below_step hbw_ hb);(try clear hb);(try clear hb2);(try clear hk);(try clear hi)) | ((with_reducible refine gate_callee (f:=42) rfl ?_);refine goesL_ (some 17) rfl rfl Try.func42 (by kernel_rfl) rfl #[.slice A1 l1.length c1,.int .i64 t2] rfl lm_ ?_;(with_reducible refine (laws_szLineS.calls _ _ l1 t2 t3 _ ?side1 ?side2 A8.out).mono ?_);(case side1=>exact cc_ (Kd.C_below HR1.out HB.out));(case side2=>exact HC1.out);rintro e w' ⟨rfl,⟨nd,rfl⟩⟩;refine ⟨_,rfl,?_⟩;(try (rw [drewN_self w22];generalize hq_ : World.drewN w22 _ = w22;have n0_ : Aside0 (w22.heap[gb1]? = some (.cells #[.slice A0_0 l0_0.length c0_0] 38 (0,0))):=⟨by rw [← hq_];exact (bb_ BK1.out)⟩;have n1_ : Aside0 (Below w.heap.size w w22):=⟨by rw [← hq_];exact hbw_⟩;clear BK1 HB hq_;have BK1:=n0_;have HB:=n1_;clear n0_ n1_));have hcz23_0 : w22.cell? ⟨gb1,0,none⟩ = some (.slice A0_0 l0_0.length c0_0):=(blk_cell BK1.out 0).trans rfl;have hfz23_0:=blk_frozen BK1.out 0) | ((with_reducible refine gate_callee (f:=24) rfl ?_);refine goesL_ (some 21) rfl rfl Try.func24 (by kernel_rfl) rfl #[.agg #[.slice A0_0 l0_0.length c0_0]] rfl lm_ ?_;(with_reducible refine (laws_toTree.calls k _ _ l0_0 t4 _ ?side1 ?side2 A13.out).mono ?_);(case side1=>exact cc_ (Kd.C_below HR0_0.out HB.out));(case side2=>exact HC0_0.out);rintro e w24 ⟨v5,rfl,ho0,hb⟩;refine ⟨_,rfl,?_⟩;have HO6:=a0_ (Kd.R_lower ho0 (below_size hbw_));replace BK1:=kb_ BK1 hb;replace HB:=a0_ (below_step hbw_ hb);(try clear hb);(try clear ho0)) | ((with_reducible refine gate_callee (f:=44) rfl ?_);refine goesL_ (some 23) rfl rfl Try.func44 (by kernel_rfl) rfl #[.slice A1 l1.length c1] rfl lm_ ?_;(with_reducible refine (laws_toLineS.calls k _ _ l1 t7 _ ?side1 ?side2 A14.out).mono ?_);(case side1=>exact cc_ (Kd.C_below HR1.out HB.out));(case side2=>exact HC1.out);rintro e w25 ⟨v8,rfl,ho0,hb⟩;refine ⟨_,rfl,?_⟩;replace HO6:=rb_ HO6 hb;have HO9:=a0_ (Kd.R_lower ho0 (below_size hbw_));replace BK1:=kb_ BK1 hb;replace HB:=a0_ (below_step hbw_ hb);(try clear hb);(try clear ho0);obtain ⟨Ao26,co26,eo26⟩:=Kd.R_slice HO6.out;subst eo26;obtain ⟨Ao27,co27,eo27⟩:=Kd.R_slice HO9.out;subst eo27) | ((with_reducible refine gate_callee (f:=43) rfl ?_);refine goesL_ (some 24) rfl rfl Try.func43 (by kernel_rfl) rfl #[.agg #[.slice Ao26 t4.length co26],.slice Ao27 t7.length co27] rfl lm_ ?_;(with_reducible refine (spec_ValidProgram.calls k _ _ t4 _ _ t7 t10 _ ?side1 ?side2 ?side3 ?side4 A15.out).mono ?_);(case side1=>exact cc_ (Kd.R_reads' HO6.out).2.2);(case side2=>exact (Kd.R_reads' HO6.out).2.1);(case side3=>exact cc_ (Kd.R_reads' HO9.out).2.2);(case side4=>exact (Kd.R_reads' HO9.out).2.1);rintro e w28 ⟨rfl,hb⟩;refine ⟨_,rfl,?_⟩;replace HO6:=rb_ HO6 hb;replace HO9:=rb_ HO9 hb;replace BK1:=kb_ BK1 hb;replace HB:=a0_ (below_step hbw_ hb);(try clear hb);have hcz29_0 : w28.cell? ⟨gb1,0,none⟩ = some (.slice A0_0 l0_0.length c0_0):=(blk_cell BK1.out 0).trans rfl;have hfz29_0:=blk_frozen BK1.out 0) | ((with_reducible refine gate_callee (f:=24) rfl ?_);refine goesL_ (some 26) rfl rfl Try.func24 (by kernel_rfl) rfl #[.agg #[.slice A0_0 l0_0.length c0_0]] rfl lm_ ?_;(with_reducible refine (laws_toTree.calls k _ _ l0_0 t11 _ ?side1 ?side2 A16.out).mono ?_);(case side1=>exact cc_ (Kd.C_below HR0_0.out HB.out));(case side2=>exact HC0_0.out);rintro e w30 ⟨v12,rfl,ho0,hb⟩;refine ⟨_,rfl,?_⟩;have n0_:=a0_ (Kd.R_elder' (rr_ HO6.out) (Kd.R_base ho0) hb);have n1_:=rb_ HO9 hb;have n2_:=a0_ (Kd.R_lower (Kd.R_new' ho0 (Kd.R_lt (rr_ HO6.out))) (below_size hbw_));have n3_:=kb_ BK1 hb;have n4_:=a0_ (below_step hbw_ hb);clear HO6 HO9;clear BK1 HB;have HO6:=n0_;have HO9:=n1_;have HO13:=n2_;have BK1:=n3_;have HB:=n4_;clear n0_ n1_ n2_ n3_ n4_;(try clear hb);(try clear ho0)) | ((with_reducible refine gate_dst (N:=7) rfl ?_);refine box_event ?hg (N:=7) ?hd (cs:=#[.slice none 0 0]) (t:=25) ?hr ?_;(case hd=>rfl);(case hg=>rfl);(case hr=>first | (go_simp;done) | (go_simp;rfl));intro gb14 hg w31 hbox hb;have n0_:=rb_ HO6 hb;have n1_:=rb_ HO9 hb;have n2_:=rb_ HO13 hb;have n3_:=kb_ BK1 hb;have n4_:=a0_ (below_step hbw_ hb);have n5_:=a0_ (hbox);have n6_:=a0_ ((by rw [hg];exact (below_size hbw_) : w.heap.size ≤ gb14));have n7_:=a0_ ((by rw [hg];exact (below_size hbw_) : w.heap.size ≤ gb14));have n8_:=a0_ ((by rw [hg];exact Nat.ne_of_lt (blk_lt (bb_ BK1.out)) : gb1 ≠ gb14));have n9_:=a0_ ((by rw [hg];exact Nat.ne_of_gt (blk_lt (bb_ BK1.out)) : gb14 ≠ gb1));clear HO6 HO9;clear HO13 BK1 HB;have HO6:=n0_;have HO9:=n1_;have HO13:=n2_;have BK1:=n3_;have HB:=n4_;have BK14:=n5_;have GW14:=n6_;have GE14:=n7_;have NB1_14:=n8_;have NB14_1:=n9_;clear n0_ n1_ n2_ n3_ n4_ n5_ n6_ n7_ n8_ n9_;clear hb hbox hg;obtain ⟨Ao32,co32,eo32⟩:=Kd.R_slice HO13.out;subst eo32;have hnb33:=NB14_1.out;have hnc33:=NB1_14.out;have hcz34_0 : w31.cell? ⟨gb14,0,none⟩ = some (.slice none 0 0):=(blk_cell BK14.out 0).trans rfl;have hfz34_0:=blk_frozen BK14.out 0) | ((with_reducible refine gate_callee (f:=44) rfl ?_);refine goesL_ (some 28) rfl rfl Try.func44 (by kernel_rfl) rfl #[.slice A1 l1.length c1] rfl lm_ ?_;(with_reducible refine (laws_toLineS.calls k _ _ l1 t15 _ ?side1 ?side2 A17.out).mono ?_);(case side1=>exact Kd.C_below HR1.out hbw_);(case side2=>exact HC1.out);rintro e w35 ⟨v16,rfl,ho0,hb⟩;refine ⟨_,rfl,?_⟩;have n0_:=a0_ (Kd.R_below (by (with_reducible repeat (first | apply Kd.R_alloc | apply Kd.R_drewN | apply Kd.R_drew));exact (Kd.R_mono (Kd.R_far (p:=⟨gb14,0,none⟩) (Kd.R_types HO6.out BK14.out (by decide)) (fun _ hk=>hk.2) (.slice Ao32 t11.length co32)) (fun _ h_=>h_.1))) hb);have n1_:=a0_ (Kd.R_elder' (by (with_reducible repeat (first | apply Kd.R_alloc | apply Kd.R_drewN | apply Kd.R_drew));exact (Kd.R_mono (Kd.R_far (p:=⟨gb14,0,none⟩) (Kd.R_types HO9.out BK14.out (by decide)) (fun _ hk=>hk.2) (.slice Ao32 t11.length co32)) (fun _ h_=>h_.1))) (Kd.R_base ho0) hb);have n2_:=a0_ (Kd.R_below (by (with_reducible repeat (first | apply Kd.R_alloc | apply Kd.R_drewN | apply Kd.R_drew));exact (Kd.R_mono (Kd.R_far (p:=⟨gb14,0,none⟩) (Kd.R_types HO13.out BK14.out (by decide)) (fun _ hk=>hk.2) (.slice Ao32 t11.length co32)) (fun _ h_=>h_.1))) hb);have n3_:=a0_ (Kd.R_lower (Kd.R_new' ho0 (Kd.R_lt (by (with_reducible repeat (first | apply Kd.R_alloc | apply Kd.R_drewN | apply Kd.R_drew));exact (Kd.R_mono (Kd.R_far (p:=⟨gb14,0,none⟩) (Kd.R_types HO9.out BK14.out (by decide)) (fun _ hk=>hk.2) (.slice Ao32 t11.length co32)) (fun _ h_=>h_.1))))) (below_size hbw_));have n4_:=kf_ BK1 NB1_14 hb;have n5_:=a0_ (blk_below (g:=gb14) (o:=.cells #[.slice Ao32 t11.length co32] 25 (0,0)) (by (with_reducible repeat (first | refine blk_drewN ?_ _ | refine blk_drew ?_ | refine blk_alloc ?_ _));refine blk_put (cs:=#[.slice none 0 0]) ?_ 0 _ rfl;(with_reducible repeat (first | refine blk_drewN ?_ _ | refine blk_drew ?_ | refine blk_alloc ?_ _));exact BK14.out) hb);have n6_:=a0_ (below_step hbw_ hb);clear HO6 HO9;clear HO13 BK1;clear BK14 HB;have HO6:=n0_;have HO9:=n1_;have HO13:=n2_;have HO17:=n3_;have BK1:=n4_;have BK14:=n5_;have HB:=n6_;clear n0_ n1_ n2_ n3_ n4_ n5_ n6_;(try clear hb);(try clear ho0);have hcz36_0 : w35.cell? ⟨gb14,0,none⟩ = some (.slice Ao32 t11.length co32):=(blk_cell BK14.out 0).trans rfl;have hfz36_0:=blk_frozen BK14.out 0;obtain ⟨Ao37,co37,eo37⟩:=Kd.R_slice HO17.out;subst eo37) | ((with_reducible refine gate_callee (f:=45) rfl ?_);refine goesL_ (some 31) rfl rfl Try.func45 (by kernel_rfl) rfl #[.agg #[.slice Ao32 t11.length co32],.slice Ao37 t15.length co37] rfl lm_ ?_;(with_reducible refine (impl_ValidProgram.calls k _ _ t11 _ _ t15 t18 _ ?side1 ?side2 ?side3 ?side4 A18.out).mono ?_);(case side1=>exact cc_ (Kd.R_reads' HO13.out).2.2);(case side2=>exact (Kd.R_reads' HO13.out).2.1);(case side3=>exact cc_ (Kd.R_reads' HO17.out).2.2);(case side4=>exact (Kd.R_reads' HO17.out).2.1);rintro e w38 ⟨rfl,hb⟩;refine ⟨_,rfl,?_⟩;replace HO6:=rb_ HO6 hb;replace HO9:=rb_ HO9 hb;replace HO13:=rb_ HO13 hb;replace HO17:=rb_ HO17 hb;replace BK1:=kb_ BK1 hb;replace BK14:=kb_ BK14 hb;replace HB:=a0_ (below_step hbw_ hb);(try clear hb);(try clear hb2);(try clear hk);(try clear hi)))
    go_ret
    exact ⟨by first | rfl | (simp [errW_none,errW_some] <;> rfl) | (simp [*,errW_none,errW_some] <;> rfl),hbw_⟩
   ·rw [if_neg c19] at H
    have c19b0 : (t18 != t10) = false:=by simpa using c19
    (try (have c19b1 : decide (t18 = t10) = true:=by simpa using c19))
    (try (have c19b2 : (t18 == t10) = true:=by simpa using c19))
    clear c19
    replace H:=Option.bind_eq_some_iff.mp H
    obtain ⟨t19,A390,H⟩:=H
    try dsimp only at H
    have A39:=a0_ A390
    clear A390
    replace H:=Option.bind_eq_some_iff.mp H
    obtain ⟨t22,A400,H⟩:=H
    try dsimp only at H
    have A40:=a0_ A400
    clear A400
    by_cases c41 : t22 = true
    ·subst c41
     have H1 : ((laws_toLineS.f k l1).bind fun t23=>((laws_eqLineS.f k t15 t23).bind fun t26=>(if t26 = true then (some true) else (some false)))) = some r:=by rw [if_pos rfl] at H;exact H
     clear H
     have H:=H1
     clear H1
     replace H:=Option.bind_eq_some_iff.mp H
     obtain ⟨t23,A420,H⟩:=H
     try dsimp only at H
     have A42:=a0_ A420
     clear A420
     replace H:=Option.bind_eq_some_iff.mp H
     obtain ⟨t26,A430,H⟩:=H
     replace H : (if t26 = true then (some true) else (some false)) = some r:=H
     have A43:=a0_ A430
     clear A430
     by_cases c44 : t26 = true
     ·subst c44
      have H1 : (some true) = some r:=by rw [if_pos rfl] at H;exact H
      clear H
      have H:=H1
      clear H1
      obtain rfl:=Option.some.inj H
      go_enter Try.func7,Try.ntmps7
      try go_wp2_with (first | ((with_reducible refine gate_dst (N:=2) rfl ?_);refine box_event ?hg (N:=2) ?hd (cs:=#[.slice A0_0 l0_0.length c0_0]) (t:=38) ?hr ?_;(case hd=>rfl);(case hg=>rfl);(case hr=>first | (go_simp;done) | (go_simp;rfl));intro gb1 hg w45 hbox hb;have BK1:=a0_ (hbox);have GW1:=a0_ ((by rw [hg];exact (below_size hbw_) : w.heap.size ≤ gb1));have GE1:=a0_ ((by rw [hg];exact (below_size hbw_) : w.heap.size ≤ gb1));replace HB:=a0_ (below_step hbw_ hb);clear hb hbox hg;have hcz46_0 : w45.cell? ⟨gb1,0,none⟩ = some (.slice A0_0 l0_0.length c0_0):=(blk_cell BK1.out 0).trans rfl;have hfz46_0:=blk_frozen BK1.out 0) | ((with_reducible refine gate_callee (f:=21) rfl ?_);refine goesL_ (some 12) rfl rfl Try.func21 (by kernel_rfl) rfl #[.agg #[.slice A0_0 l0_0.length c0_0],.int .i64 1048576] rfl lm_ ?_;(with_reducible refine (laws_szTree.calls k _ _ l0_0 1048576 t2 _ ?side1 ?side2 A3.out).mono ?_);(case side1=>exact cc_ (Kd.C_below HR0_0.out HB.out));(case side2=>exact HC0_0.out);rintro e w47 ⟨rfl,hb⟩;refine ⟨_,rfl,?_⟩;replace BK1:=kb_ BK1 hb;replace HB:=a0_ (below_step hbw_ hb);(try clear hb);(try clear hb2);(try clear hk);(try clear hi)) | ((with_reducible refine gate_callee (f:=42) rfl ?_);refine goesL_ (some 17) rfl rfl Try.func42 (by kernel_rfl) rfl #[.slice A1 l1.length c1,.int .i64 t2] rfl lm_ ?_;(with_reducible refine (laws_szLineS.calls _ _ l1 t2 t3 _ ?side1 ?side2 A8.out).mono ?_);(case side1=>exact cc_ (Kd.C_below HR1.out HB.out));(case side2=>exact HC1.out);rintro e w' ⟨rfl,⟨nd,rfl⟩⟩;refine ⟨_,rfl,?_⟩;(try (rw [drewN_self w47];generalize hq_ : World.drewN w47 _ = w47;have n0_ : Aside0 (w47.heap[gb1]? = some (.cells #[.slice A0_0 l0_0.length c0_0] 38 (0,0))):=⟨by rw [← hq_];exact (bb_ BK1.out)⟩;have n1_ : Aside0 (Below w.heap.size w w47):=⟨by rw [← hq_];exact hbw_⟩;clear BK1 HB hq_;have BK1:=n0_;have HB:=n1_;clear n0_ n1_));have hcz48_0 : w47.cell? ⟨gb1,0,none⟩ = some (.slice A0_0 l0_0.length c0_0):=(blk_cell BK1.out 0).trans rfl;have hfz48_0:=blk_frozen BK1.out 0) | ((with_reducible refine gate_callee (f:=24) rfl ?_);refine goesL_ (some 21) rfl rfl Try.func24 (by kernel_rfl) rfl #[.agg #[.slice A0_0 l0_0.length c0_0]] rfl lm_ ?_;(with_reducible refine (laws_toTree.calls k _ _ l0_0 t4 _ ?side1 ?side2 A13.out).mono ?_);(case side1=>exact cc_ (Kd.C_below HR0_0.out HB.out));(case side2=>exact HC0_0.out);rintro e w49 ⟨v5,rfl,ho0,hb⟩;refine ⟨_,rfl,?_⟩;have HO6:=a0_ (Kd.R_lower ho0 (below_size hbw_));replace BK1:=kb_ BK1 hb;replace HB:=a0_ (below_step hbw_ hb);(try clear hb);(try clear ho0)) | ((with_reducible refine gate_callee (f:=44) rfl ?_);refine goesL_ (some 23) rfl rfl Try.func44 (by kernel_rfl) rfl #[.slice A1 l1.length c1] rfl lm_ ?_;(with_reducible refine (laws_toLineS.calls k _ _ l1 t7 _ ?side1 ?side2 A14.out).mono ?_);(case side1=>exact cc_ (Kd.C_below HR1.out HB.out));(case side2=>exact HC1.out);rintro e w50 ⟨v8,rfl,ho0,hb⟩;refine ⟨_,rfl,?_⟩;replace HO6:=rb_ HO6 hb;have HO9:=a0_ (Kd.R_lower ho0 (below_size hbw_));replace BK1:=kb_ BK1 hb;replace HB:=a0_ (below_step hbw_ hb);(try clear hb);(try clear ho0);obtain ⟨Ao51,co51,eo51⟩:=Kd.R_slice HO6.out;subst eo51;obtain ⟨Ao52,co52,eo52⟩:=Kd.R_slice HO9.out;subst eo52) | ((with_reducible refine gate_callee (f:=43) rfl ?_);refine goesL_ (some 24) rfl rfl Try.func43 (by kernel_rfl) rfl #[.agg #[.slice Ao51 t4.length co51],.slice Ao52 t7.length co52] rfl lm_ ?_;(with_reducible refine (spec_ValidProgram.calls k _ _ t4 _ _ t7 t10 _ ?side1 ?side2 ?side3 ?side4 A15.out).mono ?_);(case side1=>exact cc_ (Kd.R_reads' HO6.out).2.2);(case side2=>exact (Kd.R_reads' HO6.out).2.1);(case side3=>exact cc_ (Kd.R_reads' HO9.out).2.2);(case side4=>exact (Kd.R_reads' HO9.out).2.1);rintro e w53 ⟨rfl,hb⟩;refine ⟨_,rfl,?_⟩;replace HO6:=rb_ HO6 hb;replace HO9:=rb_ HO9 hb;replace BK1:=kb_ BK1 hb;replace HB:=a0_ (below_step hbw_ hb);(try clear hb);have hcz54_0 : w53.cell? ⟨gb1,0,none⟩ = some (.slice A0_0 l0_0.length c0_0):=(blk_cell BK1.out 0).trans rfl;have hfz54_0:=blk_frozen BK1.out 0) | ((with_reducible refine gate_callee (f:=24) rfl ?_);refine goesL_ (some 26) rfl rfl Try.func24 (by kernel_rfl) rfl #[.agg #[.slice A0_0 l0_0.length c0_0]] rfl lm_ ?_;(with_reducible refine (laws_toTree.calls k _ _ l0_0 t11 _ ?side1 ?side2 A16.out).mono ?_);(case side1=>exact cc_ (Kd.C_below HR0_0.out HB.out));(case side2=>exact HC0_0.out);rintro e w55 ⟨v12,rfl,ho0,hb⟩;refine ⟨_,rfl,?_⟩;have n0_:=a0_ (Kd.R_elder' (rr_ HO6.out) (Kd.R_base ho0) hb);have n1_:=rb_ HO9 hb;have n2_:=a0_ (Kd.R_lower (Kd.R_new' ho0 (Kd.R_lt (rr_ HO6.out))) (below_size hbw_));have n3_:=kb_ BK1 hb;have n4_:=a0_ (below_step hbw_ hb);clear HO6 HO9;clear BK1 HB;have HO6:=n0_;have HO9:=n1_;have HO13:=n2_;have BK1:=n3_;have HB:=n4_;clear n0_ n1_ n2_ n3_ n4_;(try clear hb);(try clear ho0)) | ((with_reducible refine gate_dst (N:=7) rfl ?_);refine box_event ?hg (N:=7) ?hd (cs:=#[.slice none 0 0]) (t:=25) ?hr ?_;(case hd=>rfl);(case hg=>rfl);(case hr=>first | (go_simp;done) | (go_simp;rfl));intro gb14 hg w56 hbox hb;have n0_:=rb_ HO6 hb;have n1_:=rb_ HO9 hb;have n2_:=rb_ HO13 hb;have n3_:=kb_ BK1 hb;have n4_:=a0_ (below_step hbw_ hb);have n5_:=a0_ (hbox);have n6_:=a0_ ((by rw [hg];exact (below_size hbw_) : w.heap.size ≤ gb14));have n7_:=a0_ ((by rw [hg];exact (below_size hbw_) : w.heap.size ≤ gb14));have n8_:=a0_ ((by rw [hg];exact Nat.ne_of_lt (blk_lt (bb_ BK1.out)) : gb1 ≠ gb14));have n9_:=a0_ ((by rw [hg];exact Nat.ne_of_gt (blk_lt (bb_ BK1.out)) : gb14 ≠ gb1));clear HO6 HO9;clear HO13 BK1 HB;have HO6:=n0_;have HO9:=n1_;have HO13:=n2_;have BK1:=n3_;have HB:=n4_;have BK14:=n5_;have GW14:=n6_;have GE14:=n7_;have NB1_14:=n8_;have NB14_1:=n9_;clear n0_ n1_ n2_ n3_ n4_ n5_ n6_ n7_ n8_ n9_;clear hb hbox hg;obtain ⟨Ao57,co57,eo57⟩:=Kd.R_slice HO13.out;subst eo57;have hnb58:=NB14_1.out;have hnc58:=NB1_14.out;have hcz59_0 : w56.cell? ⟨gb14,0,none⟩ = some (.slice none 0 0):=(blk_cell BK14.out 0).trans rfl;have hfz59_0:=blk_frozen BK14.out 0) | ((with_reducible refine gate_callee (f:=44) rfl ?_);refine goesL_ (some 28) rfl rfl Try.func44 (by kernel_rfl) rfl #[.slice A1 l1.length c1] rfl lm_ ?_;(with_reducible refine (laws_toLineS.calls k _ _ l1 t15 _ ?side1 ?side2 A17.out).mono ?_);(case side1=>exact Kd.C_below HR1.out hbw_);(case side2=>exact HC1.out);rintro e w60 ⟨v16,rfl,ho0,hb⟩;refine ⟨_,rfl,?_⟩;have n0_:=a0_ (Kd.R_below (by (with_reducible repeat (first | apply Kd.R_alloc | apply Kd.R_drewN | apply Kd.R_drew));exact (Kd.R_mono (Kd.R_far (p:=⟨gb14,0,none⟩) (Kd.R_types HO6.out BK14.out (by decide)) (fun _ hk=>hk.2) (.slice Ao57 t11.length co57)) (fun _ h_=>h_.1))) hb);have n1_:=a0_ (Kd.R_elder' (by (with_reducible repeat (first | apply Kd.R_alloc | apply Kd.R_drewN | apply Kd.R_drew));exact (Kd.R_mono (Kd.R_far (p:=⟨gb14,0,none⟩) (Kd.R_types HO9.out BK14.out (by decide)) (fun _ hk=>hk.2) (.slice Ao57 t11.length co57)) (fun _ h_=>h_.1))) (Kd.R_base ho0) hb);have n2_:=a0_ (Kd.R_below (by (with_reducible repeat (first | apply Kd.R_alloc | apply Kd.R_drewN | apply Kd.R_drew));exact (Kd.R_mono (Kd.R_far (p:=⟨gb14,0,none⟩) (Kd.R_types HO13.out BK14.out (by decide)) (fun _ hk=>hk.2) (.slice Ao57 t11.length co57)) (fun _ h_=>h_.1))) hb);have n3_:=a0_ (Kd.R_lower (Kd.R_new' ho0 (Kd.R_lt (by (with_reducible repeat (first | apply Kd.R_alloc | apply Kd.R_drewN | apply Kd.R_drew));exact (Kd.R_mono (Kd.R_far (p:=⟨gb14,0,none⟩) (Kd.R_types HO9.out BK14.out (by decide)) (fun _ hk=>hk.2) (.slice Ao57 t11.length co57)) (fun _ h_=>h_.1))))) (below_size hbw_));have n4_:=kf_ BK1 NB1_14 hb;have n5_:=a0_ (blk_below (g:=gb14) (o:=.cells #[.slice Ao57 t11.length co57] 25 (0,0)) (by (with_reducible repeat (first | refine blk_drewN ?_ _ | refine blk_drew ?_ | refine blk_alloc ?_ _));refine blk_put (cs:=#[.slice none 0 0]) ?_ 0 _ rfl;(with_reducible repeat (first | refine blk_drewN ?_ _ | refine blk_drew ?_ | refine blk_alloc ?_ _));exact BK14.out) hb);have n6_:=a0_ (below_step hbw_ hb);clear HO6 HO9;clear HO13 BK1;clear BK14 HB;have HO6:=n0_;have HO9:=n1_;have HO13:=n2_;have HO17:=n3_;have BK1:=n4_;have BK14:=n5_;have HB:=n6_;clear n0_ n1_ n2_ n3_ n4_ n5_ n6_;(try clear hb);(try clear ho0);have hcz61_0 : w60.cell? ⟨gb14,0,none⟩ = some (.slice Ao57 t11.length co57):=(blk_cell BK14.out 0).trans rfl;have hfz61_0:=blk_frozen BK14.out 0;obtain ⟨Ao62,co62,eo62⟩:=Kd.R_slice HO17.out;subst eo62) | ((with_reducible refine gate_callee (f:=45) rfl ?_);refine goesL_ (some 31) rfl rfl Try.func45 (by kernel_rfl) rfl #[.agg #[.slice Ao57 t11.length co57],.slice Ao62 t15.length co62] rfl lm_ ?_;(with_reducible refine (impl_ValidProgram.calls k _ _ t11 _ _ t15 t18 _ ?side1 ?side2 ?side3 ?side4 A18.out).mono ?_);(case side1=>exact cc_ (Kd.R_reads' HO13.out).2.2);(case side2=>exact (Kd.R_reads' HO13.out).2.1);(case side3=>exact cc_ (Kd.R_reads' HO17.out).2.2);(case side4=>exact (Kd.R_reads' HO17.out).2.1);rintro e w63 ⟨rfl,hb⟩;refine ⟨_,rfl,?_⟩;replace HO6:=rb_ HO6 hb;replace HO9:=rb_ HO9 hb;replace HO13:=rb_ HO13 hb;replace HO17:=rb_ HO17 hb;replace BK1:=kb_ BK1 hb;replace BK14:=kb_ BK14 hb;replace HB:=a0_ (below_step hbw_ hb);(try clear hb);(try clear hb2);(try clear hk);(try clear hi)))
      have n0_:=a0_ (Kd.R_drew HO6.out)
      have n1_:=a0_ (Kd.R_drew HO9.out)
      have n2_:=a0_ (Kd.R_drew HO13.out)
      have n3_:=a0_ (Kd.R_drew HO17.out)
      have n4_:=a0_ (blk_drew BK1.out)
      have n5_:=a0_ (blk_drew BK14.out)
      have n6_:=a0_ (below_drew1 HB.out)
      clear HO6
      clear HO9
      clear HO13
      clear HO17
      clear BK1
      clear BK14
      clear HB
      have HO6:=n0_
      have HO9:=n1_
      have HO13:=n2_
      have HO17:=n3_
      have BK1:=n4_
      have BK14:=n5_
      have HB:=n6_
      clear n0_ n1_ n2_ n3_ n4_ n5_ n6_
      refine start_ (n:=5) (S:=fun w'=>w'.cell? ⟨gb14,0,none⟩ = some (.slice Ao57 t11.length co57) ∧ w'.cell? ⟨gb1,0,none⟩ = some (.slice A0_0 l0_0.length c0_0)) (ds:=[]) #[false,false,false,false,false] (by kernel_rfl) rfl rfl ⟨(blk_cell BK14.out 0).trans rfl,(blk_cell BK1.out 0).trans rfl⟩ (fun hHeld=>?_)
      generalize w63.drew = w64 at HO6 HO9 HO13 HO17 BK1 BK14 HB hHeld ⊢
      refine take_ (i:=0) (N:=some 35) (v:=?_) (a':=?_) #[true,false,false,false,false] rfl rfl (by kernel_rfl) (fun _ _ _ h=>h) (Or.inl ⟨by rfl,?_⟩) hHeld ?_ ?_
      rotate_left
      ·rintro w' ⟨s0,s1⟩
       go_simp
       with_reducible rfl
      rotate_left
      ·simp only [Act.put,s1_,s2_,s3_,i64_w,i32_w]
       rfl
      refine take_ (i:=1) (N:=some 36) (v:=?_) (a':=?_) #[true,true,false,false,false] rfl rfl (by kernel_rfl) (fun _ _ _ h=>h) (Or.inl ⟨by rfl,?_⟩) hHeld ?_ ?_
      rotate_left
      ·rintro w' ⟨s0,s1⟩
       go_simp
       with_reducible rfl
      rotate_left
      ·simp only [Act.put,s1_,s2_,s3_,i64_w,i32_w]
       rfl
      refine one_ (i:=2) (N:=some 37) #[true,true,true,false,false] rfl rfl (by kernel_rfl) (by decide) (fun K hK=>?_)
      refine goes_ Try.func24 (by kernel_rfl) rfl #[.agg #[.slice A0_0 l0_0.length c0_0]] (by rfl) rfl rfl lm_ ?_
      with_reducible refine (laws_toTree.calls k _ _ l0_0 t19 _ ?side1 ?side2 A39.out).mono ?_
      (case side1=>exact cc_ (Kd.C_below HR0_0.out HB.out))
      (case side2=>exact HC0_0.out)
      rintro e w65 ⟨v20,rfl,ho0,hb⟩
      refine ⟨_,rfl,?_⟩
      have n0_:=a0_ (Kd.R_elder' (rr_ HO6.out) (Kd.R_base ho0) hb)
      have n1_:=rb_ HO9 hb
      have n2_:=a0_ (Kd.R_elder' (rr_ HO13.out) (Kd.R_base ho0) hb)
      have n3_:=rb_ HO17 hb
      have n4_:=a0_ (Kd.R_lower (Kd.R_new' (Kd.R_new' ho0 (Kd.R_lt (rr_ HO6.out))) (Kd.R_lt (rr_ HO13.out))) (below_size hbw_))
      have n5_:=kb_ BK1 hb
      have n6_:=kb_ BK14 hb
      have n7_:=a0_ (below_step hbw_ hb)
      clear HO6
      clear HO9
      clear HO13
      clear HO17
      clear BK1
      clear BK14
      clear HB
      have HO6:=n0_
      have HO9:=n1_
      have HO13:=n2_
      have HO17:=n3_
      have HO21:=n4_
      have BK1:=n5_
      have BK14:=n6_
      have HB:=n7_
      clear n0_ n1_ n2_ n3_ n4_ n5_ n6_ n7_
      (try clear hb)
      (try clear hb2)
      (try clear hk)
      (try clear hi)
      (try clear ho0)
      obtain ⟨Ao66,co66,eo66⟩:=Kd.R_slice HO21.out
      (first | subst eo66 | (injection eo66 with f1_ f2_ f3_;have f4_:=f1_.symm;have f5_:=f3_.symm;clear f1_ f2_ f3_;subst f4_;subst f5_))
      refine hK.out _ _ ⟨(blk_cell BK14.out 0).trans rfl,(blk_cell BK1.out 0).trans rfl⟩ (fun hHeld=>?_)
      clear hK K
      refine norm_ (a':=?_) ?_ ?_
      rotate_left
      ·show Act.put _ (some 37) _ = _
       simp only [Act.put,s1_,s2_,s3_,i64_w,i32_w]
       rfl
      refine one_ (i:=3) (N:=some 38) #[true,true,true,true,false] rfl rfl (by kernel_rfl) (by decide) (fun K hK=>?_)
      refine goes_ Try.func27 (by kernel_rfl) rfl #[.agg #[.slice Ao57 t11.length co57],.agg #[.slice Ao66 t19.length co66]] (by rfl) rfl rfl lm_ ?_
      with_reducible refine (laws_eqTree.calls k _ _ t11 _ _ t19 true _ ?side1 ?side2 ?side3 ?side4 A40.out).mono ?_
      (case side1=>exact cc_ (Kd.R_reads' HO13.out).2.2)
      (case side2=>exact (Kd.R_reads' HO13.out).2.1)
      (case side3=>exact cc_ (Kd.R_reads' HO21.out).2.2)
      (case side4=>exact (Kd.R_reads' HO21.out).2.1)
      rintro e w67 ⟨rfl,hb⟩
      refine ⟨_,rfl,?_⟩
      have n0_:=rb_ HO6 hb
      have n1_:=rb_ HO9 hb
      have n2_:=rb_ HO13 hb
      have n3_:=rb_ HO17 hb
      have n4_:=rb_ HO21 hb
      have n5_:=kb_ BK1 hb
      have n6_:=kb_ BK14 hb
      have n7_:=a0_ (below_step hbw_ hb)
      clear HO6
      clear HO9
      clear HO13
      clear HO17
      clear HO21
      clear BK1
      clear BK14
      clear HB
      have HO6:=n0_
      have HO9:=n1_
      have HO13:=n2_
      have HO17:=n3_
      have HO21:=n4_
      have BK1:=n5_
      have BK14:=n6_
      have HB:=n7_
      clear n0_ n1_ n2_ n3_ n4_ n5_ n6_ n7_
      (try clear hb)
      (try clear hb2)
      (try clear hk)
      (try clear hi)
      refine hK.out _ _ ⟨(blk_cell BK14.out 0).trans rfl,(blk_cell BK1.out 0).trans rfl⟩ (fun hHeld=>?_)
      clear hK K
      refine norm_ (a':=?_) ?_ ?_
      rotate_left
      ·show Act.put _ (some 38) _ = _
       simp only [Act.put,s1_,s2_,s3_,i64_w,i32_w]
       rfl
      refine pure_ (i:=4) (N:=some 39) (v:=?_) (a':=?_) #[true,true,true,true,true] rfl rfl (by kernel_rfl) (fun _ _ _ h=>h) (Or.inl ⟨by rfl,?_⟩) ?_ ?_
      rotate_left
      ·intro w'
       go_simp
       with_reducible rfl
      rotate_left
      ·simp only [Act.put,s1_,s2_,s3_,i64_w,i32_w]
       rfl
      refine done_ (by kernel_rfl) ?_
      try go_wp2_with (first | ((with_reducible refine gate_callee (f:=44) rfl ?_);refine goesL_ (some 42) rfl rfl Try.func44 (by kernel_rfl) rfl #[.slice A1 l1.length c1] rfl lm_ ?_;(with_reducible refine (laws_toLineS.calls k _ _ l1 t23 _ ?side1 ?side2 A42.out).mono ?_);(case side1=>exact cc_ (Kd.C_below HR1.out HB.out));(case side2=>exact HC1.out);rintro e w68 ⟨v24,rfl,ho0,hb⟩;refine ⟨_,rfl,?_⟩;have n0_:=rb_ HO6 hb;have n1_:=a0_ (Kd.R_elder' (rr_ HO9.out) (Kd.R_base ho0) hb);have n2_:=rb_ HO13 hb;have n3_:=a0_ (Kd.R_elder' (rr_ HO17.out) (Kd.R_base ho0) hb);have n4_:=rb_ HO21 hb;have n5_:=a0_ (Kd.R_lower (Kd.R_new' (Kd.R_new' ho0 (Kd.R_lt (rr_ HO9.out))) (Kd.R_lt (rr_ HO17.out))) (below_size hbw_));have n6_:=kb_ BK1 hb;have n7_:=kb_ BK14 hb;have n8_:=a0_ (below_step hbw_ hb);clear HO6 HO9;clear HO13 HO17;clear HO21 BK1;clear BK14 HB;have HO6:=n0_;have HO9:=n1_;have HO13:=n2_;have HO17:=n3_;have HO21:=n4_;have HO25:=n5_;have BK1:=n6_;have BK14:=n7_;have HB:=n8_;clear n0_ n1_ n2_ n3_ n4_ n5_ n6_ n7_ n8_;(try clear hb);(try clear ho0);obtain ⟨Ao69,co69,eo69⟩:=Kd.R_slice HO25.out;subst eo69) | ((with_reducible refine gate_callee (f:=46) rfl ?_);refine goesL_ (some 43) rfl rfl Try.func46 (by kernel_rfl) rfl #[.slice Ao62 t15.length co62,.slice Ao69 t23.length co69] rfl lm_ ?_;(with_reducible refine (laws_eqLineS.calls k _ _ t15 _ _ t23 true _ ?side1 ?side2 ?side3 ?side4 A43.out).mono ?_);(case side1=>exact cc_ (Kd.R_reads' HO17.out).2.2);(case side2=>exact (Kd.R_reads' HO17.out).2.1);(case side3=>exact cc_ (Kd.R_reads' HO25.out).2.2);(case side4=>exact (Kd.R_reads' HO25.out).2.1);rintro e w70 ⟨rfl,hb⟩;refine ⟨_,rfl,?_⟩;replace HO6:=rb_ HO6 hb;replace HO9:=rb_ HO9 hb;replace HO13:=rb_ HO13 hb;replace HO17:=rb_ HO17 hb;replace HO21:=rb_ HO21 hb;replace HO25:=rb_ HO25 hb;replace BK1:=kb_ BK1 hb;replace BK14:=kb_ BK14 hb;replace HB:=a0_ (below_step hbw_ hb);(try clear hb);(try clear hb2);(try clear hk);(try clear hi)))
      go_ret
      exact ⟨by first | rfl | (simp [errW_none,errW_some] <;> rfl) | (simp [*,errW_none,errW_some] <;> rfl),hbw_⟩
     ·replace c44:=Bool.eq_false_iff.mpr c44
      subst c44
      have H1 : (some false) = some r:=by rw [if_neg (show ¬ (false = true) by decide)] at H;exact H
      clear H
      have H:=H1
      clear H1
      obtain rfl:=Option.some.inj H
      go_enter Try.func7,Try.ntmps7
      try go_wp2_with (first | ((with_reducible refine gate_dst (N:=2) rfl ?_);refine box_event ?hg (N:=2) ?hd (cs:=#[.slice A0_0 l0_0.length c0_0]) (t:=38) ?hr ?_;(case hd=>rfl);(case hg=>rfl);(case hr=>first | (go_simp;done) | (go_simp;rfl));intro gb1 hg w71 hbox hb;have BK1:=a0_ (hbox);have GW1:=a0_ ((by rw [hg];exact (below_size hbw_) : w.heap.size ≤ gb1));have GE1:=a0_ ((by rw [hg];exact (below_size hbw_) : w.heap.size ≤ gb1));replace HB:=a0_ (below_step hbw_ hb);clear hb hbox hg;have hcz72_0 : w71.cell? ⟨gb1,0,none⟩ = some (.slice A0_0 l0_0.length c0_0):=(blk_cell BK1.out 0).trans rfl;have hfz72_0:=blk_frozen BK1.out 0) | ((with_reducible refine gate_callee (f:=21) rfl ?_);refine goesL_ (some 12) rfl rfl Try.func21 (by kernel_rfl) rfl #[.agg #[.slice A0_0 l0_0.length c0_0],.int .i64 1048576] rfl lm_ ?_;(with_reducible refine (laws_szTree.calls k _ _ l0_0 1048576 t2 _ ?side1 ?side2 A3.out).mono ?_);(case side1=>exact cc_ (Kd.C_below HR0_0.out HB.out));(case side2=>exact HC0_0.out);rintro e w73 ⟨rfl,hb⟩;refine ⟨_,rfl,?_⟩;replace BK1:=kb_ BK1 hb;replace HB:=a0_ (below_step hbw_ hb);(try clear hb);(try clear hb2);(try clear hk);(try clear hi)) | ((with_reducible refine gate_callee (f:=42) rfl ?_);refine goesL_ (some 17) rfl rfl Try.func42 (by kernel_rfl) rfl #[.slice A1 l1.length c1,.int .i64 t2] rfl lm_ ?_;(with_reducible refine (laws_szLineS.calls _ _ l1 t2 t3 _ ?side1 ?side2 A8.out).mono ?_);(case side1=>exact cc_ (Kd.C_below HR1.out HB.out));(case side2=>exact HC1.out);rintro e w' ⟨rfl,⟨nd,rfl⟩⟩;refine ⟨_,rfl,?_⟩;(try (rw [drewN_self w73];generalize hq_ : World.drewN w73 _ = w73;have n0_ : Aside0 (w73.heap[gb1]? = some (.cells #[.slice A0_0 l0_0.length c0_0] 38 (0,0))):=⟨by rw [← hq_];exact (bb_ BK1.out)⟩;have n1_ : Aside0 (Below w.heap.size w w73):=⟨by rw [← hq_];exact hbw_⟩;clear BK1 HB hq_;have BK1:=n0_;have HB:=n1_;clear n0_ n1_));have hcz74_0 : w73.cell? ⟨gb1,0,none⟩ = some (.slice A0_0 l0_0.length c0_0):=(blk_cell BK1.out 0).trans rfl;have hfz74_0:=blk_frozen BK1.out 0) | ((with_reducible refine gate_callee (f:=24) rfl ?_);refine goesL_ (some 21) rfl rfl Try.func24 (by kernel_rfl) rfl #[.agg #[.slice A0_0 l0_0.length c0_0]] rfl lm_ ?_;(with_reducible refine (laws_toTree.calls k _ _ l0_0 t4 _ ?side1 ?side2 A13.out).mono ?_);(case side1=>exact cc_ (Kd.C_below HR0_0.out HB.out));(case side2=>exact HC0_0.out);rintro e w75 ⟨v5,rfl,ho0,hb⟩;refine ⟨_,rfl,?_⟩;have HO6:=a0_ (Kd.R_lower ho0 (below_size hbw_));replace BK1:=kb_ BK1 hb;replace HB:=a0_ (below_step hbw_ hb);(try clear hb);(try clear ho0)) | ((with_reducible refine gate_callee (f:=44) rfl ?_);refine goesL_ (some 23) rfl rfl Try.func44 (by kernel_rfl) rfl #[.slice A1 l1.length c1] rfl lm_ ?_;(with_reducible refine (laws_toLineS.calls k _ _ l1 t7 _ ?side1 ?side2 A14.out).mono ?_);(case side1=>exact cc_ (Kd.C_below HR1.out HB.out));(case side2=>exact HC1.out);rintro e w76 ⟨v8,rfl,ho0,hb⟩;refine ⟨_,rfl,?_⟩;replace HO6:=rb_ HO6 hb;have HO9:=a0_ (Kd.R_lower ho0 (below_size hbw_));replace BK1:=kb_ BK1 hb;replace HB:=a0_ (below_step hbw_ hb);(try clear hb);(try clear ho0);obtain ⟨Ao77,co77,eo77⟩:=Kd.R_slice HO6.out;subst eo77;obtain ⟨Ao78,co78,eo78⟩:=Kd.R_slice HO9.out;subst eo78) | ((with_reducible refine gate_callee (f:=43) rfl ?_);refine goesL_ (some 24) rfl rfl Try.func43 (by kernel_rfl) rfl #[.agg #[.slice Ao77 t4.length co77],.slice Ao78 t7.length co78] rfl lm_ ?_;(with_reducible refine (spec_ValidProgram.calls k _ _ t4 _ _ t7 t10 _ ?side1 ?side2 ?side3 ?side4 A15.out).mono ?_);(case side1=>exact cc_ (Kd.R_reads' HO6.out).2.2);(case side2=>exact (Kd.R_reads' HO6.out).2.1);(case side3=>exact cc_ (Kd.R_reads' HO9.out).2.2);(case side4=>exact (Kd.R_reads' HO9.out).2.1);rintro e w79 ⟨rfl,hb⟩;refine ⟨_,rfl,?_⟩;replace HO6:=rb_ HO6 hb;replace HO9:=rb_ HO9 hb;replace BK1:=kb_ BK1 hb;replace HB:=a0_ (below_step hbw_ hb);(try clear hb);have hcz80_0 : w79.cell? ⟨gb1,0,none⟩ = some (.slice A0_0 l0_0.length c0_0):=(blk_cell BK1.out 0).trans rfl;have hfz80_0:=blk_frozen BK1.out 0) | ((with_reducible refine gate_callee (f:=24) rfl ?_);refine goesL_ (some 26) rfl rfl Try.func24 (by kernel_rfl) rfl #[.agg #[.slice A0_0 l0_0.length c0_0]] rfl lm_ ?_;(with_reducible refine (laws_toTree.calls k _ _ l0_0 t11 _ ?side1 ?side2 A16.out).mono ?_);(case side1=>exact cc_ (Kd.C_below HR0_0.out HB.out));(case side2=>exact HC0_0.out);rintro e w81 ⟨v12,rfl,ho0,hb⟩;refine ⟨_,rfl,?_⟩;have n0_:=a0_ (Kd.R_elder' (rr_ HO6.out) (Kd.R_base ho0) hb);have n1_:=rb_ HO9 hb;have n2_:=a0_ (Kd.R_lower (Kd.R_new' ho0 (Kd.R_lt (rr_ HO6.out))) (below_size hbw_));have n3_:=kb_ BK1 hb;have n4_:=a0_ (below_step hbw_ hb);clear HO6 HO9;clear BK1 HB;have HO6:=n0_;have HO9:=n1_;have HO13:=n2_;have BK1:=n3_;have HB:=n4_;clear n0_ n1_ n2_ n3_ n4_;(try clear hb);(try clear ho0)) | ((with_reducible refine gate_dst (N:=7) rfl ?_);refine box_event ?hg (N:=7) ?hd (cs:=#[.slice none 0 0]) (t:=25) ?hr ?_;(case hd=>rfl);(case hg=>rfl);(case hr=>first | (go_simp;done) | (go_simp;rfl));intro gb14 hg w82 hbox hb;have n0_:=rb_ HO6 hb;have n1_:=rb_ HO9 hb;have n2_:=rb_ HO13 hb;have n3_:=kb_ BK1 hb;have n4_:=a0_ (below_step hbw_ hb);have n5_:=a0_ (hbox);have n6_:=a0_ ((by rw [hg];exact (below_size hbw_) : w.heap.size ≤ gb14));have n7_:=a0_ ((by rw [hg];exact (below_size hbw_) : w.heap.size ≤ gb14));have n8_:=a0_ ((by rw [hg];exact Nat.ne_of_lt (blk_lt (bb_ BK1.out)) : gb1 ≠ gb14));have n9_:=a0_ ((by rw [hg];exact Nat.ne_of_gt (blk_lt (bb_ BK1.out)) : gb14 ≠ gb1));clear HO6 HO9;clear HO13 BK1 HB;have HO6:=n0_;have HO9:=n1_;have HO13:=n2_;have BK1:=n3_;have HB:=n4_;have BK14:=n5_;have GW14:=n6_;have GE14:=n7_;have NB1_14:=n8_;have NB14_1:=n9_;clear n0_ n1_ n2_ n3_ n4_ n5_ n6_ n7_ n8_ n9_;clear hb hbox hg;obtain ⟨Ao83,co83,eo83⟩:=Kd.R_slice HO13.out;subst eo83;have hnb84:=NB14_1.out;have hnc84:=NB1_14.out;have hcz85_0 : w82.cell? ⟨gb14,0,none⟩ = some (.slice none 0 0):=(blk_cell BK14.out 0).trans rfl;have hfz85_0:=blk_frozen BK14.out 0) | ((with_reducible refine gate_callee (f:=44) rfl ?_);refine goesL_ (some 28) rfl rfl Try.func44 (by kernel_rfl) rfl #[.slice A1 l1.length c1] rfl lm_ ?_;(with_reducible refine (laws_toLineS.calls k _ _ l1 t15 _ ?side1 ?side2 A17.out).mono ?_);(case side1=>exact Kd.C_below HR1.out hbw_);(case side2=>exact HC1.out);rintro e w86 ⟨v16,rfl,ho0,hb⟩;refine ⟨_,rfl,?_⟩;have n0_:=a0_ (Kd.R_below (by (with_reducible repeat (first | apply Kd.R_alloc | apply Kd.R_drewN | apply Kd.R_drew));exact (Kd.R_mono (Kd.R_far (p:=⟨gb14,0,none⟩) (Kd.R_types HO6.out BK14.out (by decide)) (fun _ hk=>hk.2) (.slice Ao83 t11.length co83)) (fun _ h_=>h_.1))) hb);have n1_:=a0_ (Kd.R_elder' (by (with_reducible repeat (first | apply Kd.R_alloc | apply Kd.R_drewN | apply Kd.R_drew));exact (Kd.R_mono (Kd.R_far (p:=⟨gb14,0,none⟩) (Kd.R_types HO9.out BK14.out (by decide)) (fun _ hk=>hk.2) (.slice Ao83 t11.length co83)) (fun _ h_=>h_.1))) (Kd.R_base ho0) hb);have n2_:=a0_ (Kd.R_below (by (with_reducible repeat (first | apply Kd.R_alloc | apply Kd.R_drewN | apply Kd.R_drew));exact (Kd.R_mono (Kd.R_far (p:=⟨gb14,0,none⟩) (Kd.R_types HO13.out BK14.out (by decide)) (fun _ hk=>hk.2) (.slice Ao83 t11.length co83)) (fun _ h_=>h_.1))) hb);have n3_:=a0_ (Kd.R_lower (Kd.R_new' ho0 (Kd.R_lt (by (with_reducible repeat (first | apply Kd.R_alloc | apply Kd.R_drewN | apply Kd.R_drew));exact (Kd.R_mono (Kd.R_far (p:=⟨gb14,0,none⟩) (Kd.R_types HO9.out BK14.out (by decide)) (fun _ hk=>hk.2) (.slice Ao83 t11.length co83)) (fun _ h_=>h_.1))))) (below_size hbw_));have n4_:=kf_ BK1 NB1_14 hb;have n5_:=a0_ (blk_below (g:=gb14) (o:=.cells #[.slice Ao83 t11.length co83] 25 (0,0)) (by (with_reducible repeat (first | refine blk_drewN ?_ _ | refine blk_drew ?_ | refine blk_alloc ?_ _));refine blk_put (cs:=#[.slice none 0 0]) ?_ 0 _ rfl;(with_reducible repeat (first | refine blk_drewN ?_ _ | refine blk_drew ?_ | refine blk_alloc ?_ _));exact BK14.out) hb);have n6_:=a0_ (below_step hbw_ hb);clear HO6 HO9;clear HO13 BK1;clear BK14 HB;have HO6:=n0_;have HO9:=n1_;have HO13:=n2_;have HO17:=n3_;have BK1:=n4_;have BK14:=n5_;have HB:=n6_;clear n0_ n1_ n2_ n3_ n4_ n5_ n6_;(try clear hb);(try clear ho0);have hcz87_0 : w86.cell? ⟨gb14,0,none⟩ = some (.slice Ao83 t11.length co83):=(blk_cell BK14.out 0).trans rfl;have hfz87_0:=blk_frozen BK14.out 0;obtain ⟨Ao88,co88,eo88⟩:=Kd.R_slice HO17.out;subst eo88) | ((with_reducible refine gate_callee (f:=45) rfl ?_);refine goesL_ (some 31) rfl rfl Try.func45 (by kernel_rfl) rfl #[.agg #[.slice Ao83 t11.length co83],.slice Ao88 t15.length co88] rfl lm_ ?_;(with_reducible refine (impl_ValidProgram.calls k _ _ t11 _ _ t15 t18 _ ?side1 ?side2 ?side3 ?side4 A18.out).mono ?_);(case side1=>exact cc_ (Kd.R_reads' HO13.out).2.2);(case side2=>exact (Kd.R_reads' HO13.out).2.1);(case side3=>exact cc_ (Kd.R_reads' HO17.out).2.2);(case side4=>exact (Kd.R_reads' HO17.out).2.1);rintro e w89 ⟨rfl,hb⟩;refine ⟨_,rfl,?_⟩;replace HO6:=rb_ HO6 hb;replace HO9:=rb_ HO9 hb;replace HO13:=rb_ HO13 hb;replace HO17:=rb_ HO17 hb;replace BK1:=kb_ BK1 hb;replace BK14:=kb_ BK14 hb;replace HB:=a0_ (below_step hbw_ hb);(try clear hb);(try clear hb2);(try clear hk);(try clear hi)))
      have n0_:=a0_ (Kd.R_drew HO6.out)
      have n1_:=a0_ (Kd.R_drew HO9.out)
      have n2_:=a0_ (Kd.R_drew HO13.out)
      have n3_:=a0_ (Kd.R_drew HO17.out)
      have n4_:=a0_ (blk_drew BK1.out)
      have n5_:=a0_ (blk_drew BK14.out)
      have n6_:=a0_ (below_drew1 HB.out)
      clear HO6
      clear HO9
      clear HO13
      clear HO17
      clear BK1
      clear BK14
      clear HB
      have HO6:=n0_
      have HO9:=n1_
      have HO13:=n2_
      have HO17:=n3_
      have BK1:=n4_
      have BK14:=n5_
      have HB:=n6_
      clear n0_ n1_ n2_ n3_ n4_ n5_ n6_
      refine start_ (n:=5) (S:=fun w'=>w'.cell? ⟨gb14,0,none⟩ = some (.slice Ao83 t11.length co83) ∧ w'.cell? ⟨gb1,0,none⟩ = some (.slice A0_0 l0_0.length c0_0)) (ds:=[]) #[false,false,false,false,false] (by kernel_rfl) rfl rfl ⟨(blk_cell BK14.out 0).trans rfl,(blk_cell BK1.out 0).trans rfl⟩ (fun hHeld=>?_)
      generalize w89.drew = w90 at HO6 HO9 HO13 HO17 BK1 BK14 HB hHeld ⊢
      refine take_ (i:=0) (N:=some 35) (v:=?_) (a':=?_) #[true,false,false,false,false] rfl rfl (by kernel_rfl) (fun _ _ _ h=>h) (Or.inl ⟨by rfl,?_⟩) hHeld ?_ ?_
      rotate_left
      ·rintro w' ⟨s0,s1⟩
       go_simp
       with_reducible rfl
      rotate_left
      ·simp only [Act.put,s1_,s2_,s3_,i64_w,i32_w]
       rfl
      refine take_ (i:=1) (N:=some 36) (v:=?_) (a':=?_) #[true,true,false,false,false] rfl rfl (by kernel_rfl) (fun _ _ _ h=>h) (Or.inl ⟨by rfl,?_⟩) hHeld ?_ ?_
      rotate_left
      ·rintro w' ⟨s0,s1⟩
       go_simp
       with_reducible rfl
      rotate_left
      ·simp only [Act.put,s1_,s2_,s3_,i64_w,i32_w]
       rfl
      refine one_ (i:=2) (N:=some 37) #[true,true,true,false,false] rfl rfl (by kernel_rfl) (by decide) (fun K hK=>?_)
      refine goes_ Try.func24 (by kernel_rfl) rfl #[.agg #[.slice A0_0 l0_0.length c0_0]] (by rfl) rfl rfl lm_ ?_
      with_reducible refine (laws_toTree.calls k _ _ l0_0 t19 _ ?side1 ?side2 A39.out).mono ?_
      (case side1=>exact cc_ (Kd.C_below HR0_0.out HB.out))
      (case side2=>exact HC0_0.out)
      rintro e w91 ⟨v20,rfl,ho0,hb⟩
      refine ⟨_,rfl,?_⟩
      have n0_:=a0_ (Kd.R_elder' (rr_ HO6.out) (Kd.R_base ho0) hb)
      have n1_:=rb_ HO9 hb
      have n2_:=a0_ (Kd.R_elder' (rr_ HO13.out) (Kd.R_base ho0) hb)
      have n3_:=rb_ HO17 hb
      have n4_:=a0_ (Kd.R_lower (Kd.R_new' (Kd.R_new' ho0 (Kd.R_lt (rr_ HO6.out))) (Kd.R_lt (rr_ HO13.out))) (below_size hbw_))
      have n5_:=kb_ BK1 hb
      have n6_:=kb_ BK14 hb
      have n7_:=a0_ (below_step hbw_ hb)
      clear HO6
      clear HO9
      clear HO13
      clear HO17
      clear BK1
      clear BK14
      clear HB
      have HO6:=n0_
      have HO9:=n1_
      have HO13:=n2_
      have HO17:=n3_
      have HO21:=n4_
      have BK1:=n5_
      have BK14:=n6_
      have HB:=n7_
      clear n0_ n1_ n2_ n3_ n4_ n5_ n6_ n7_
      (try clear hb)
      (try clear hb2)
      (try clear hk)
      (try clear hi)
      (try clear ho0)
      obtain ⟨Ao92,co92,eo92⟩:=Kd.R_slice HO21.out
      (first | subst eo92 | (injection eo92 with f1_ f2_ f3_;have f4_:=f1_.symm;have f5_:=f3_.symm;clear f1_ f2_ f3_;subst f4_;subst f5_))
      refine hK.out _ _ ⟨(blk_cell BK14.out 0).trans rfl,(blk_cell BK1.out 0).trans rfl⟩ (fun hHeld=>?_)
      clear hK K
      refine norm_ (a':=?_) ?_ ?_
      rotate_left
      ·show Act.put _ (some 37) _ = _
       simp only [Act.put,s1_,s2_,s3_,i64_w,i32_w]
       rfl
      refine one_ (i:=3) (N:=some 38) #[true,true,true,true,false] rfl rfl (by kernel_rfl) (by decide) (fun K hK=>?_)
      refine goes_ Try.func27 (by kernel_rfl) rfl #[.agg #[.slice Ao83 t11.length co83],.agg #[.slice Ao92 t19.length co92]] (by rfl) rfl rfl lm_ ?_
      with_reducible refine (laws_eqTree.calls k _ _ t11 _ _ t19 true _ ?side1 ?side2 ?side3 ?side4 A40.out).mono ?_
      (case side1=>exact cc_ (Kd.R_reads' HO13.out).2.2)
      (case side2=>exact (Kd.R_reads' HO13.out).2.1)
      (case side3=>exact cc_ (Kd.R_reads' HO21.out).2.2)
      (case side4=>exact (Kd.R_reads' HO21.out).2.1)
      rintro e w93 ⟨rfl,hb⟩
      refine ⟨_,rfl,?_⟩
      have n0_:=rb_ HO6 hb
      have n1_:=rb_ HO9 hb
      have n2_:=rb_ HO13 hb
      have n3_:=rb_ HO17 hb
      have n4_:=rb_ HO21 hb
      have n5_:=kb_ BK1 hb
      have n6_:=kb_ BK14 hb
      have n7_:=a0_ (below_step hbw_ hb)
      clear HO6
      clear HO9
      clear HO13
      clear HO17
      clear HO21
      clear BK1
      clear BK14
      clear HB
      have HO6:=n0_
      have HO9:=n1_
      have HO13:=n2_
      have HO17:=n3_
      have HO21:=n4_
      have BK1:=n5_
      have BK14:=n6_
      have HB:=n7_
      clear n0_ n1_ n2_ n3_ n4_ n5_ n6_ n7_
      (try clear hb)
      (try clear hb2)
      (try clear hk)
      (try clear hi)
      refine hK.out _ _ ⟨(blk_cell BK14.out 0).trans rfl,(blk_cell BK1.out 0).trans rfl⟩ (fun hHeld=>?_)
      clear hK K
      refine norm_ (a':=?_) ?_ ?_
      rotate_left
      ·show Act.put _ (some 38) _ = _
       simp only [Act.put,s1_,s2_,s3_,i64_w,i32_w]
       rfl
      refine pure_ (i:=4) (N:=some 39) (v:=?_) (a':=?_) #[true,true,true,true,true] rfl rfl (by kernel_rfl) (fun _ _ _ h=>h) (Or.inl ⟨by rfl,?_⟩) ?_ ?_
      rotate_left
      ·intro w'
       go_simp
       with_reducible rfl
      rotate_left
      ·simp only [Act.put,s1_,s2_,s3_,i64_w,i32_w]
       rfl
      refine done_ (by kernel_rfl) ?_
      try go_wp2_with (first | ((with_reducible refine gate_callee (f:=44) rfl ?_);refine goesL_ (some 42) rfl rfl Try.func44 (by kernel_rfl) rfl #[.slice A1 l1.length c1] rfl lm_ ?_;(with_reducible refine (laws_toLineS.calls k _ _ l1 t23 _ ?side1 ?side2 A42.out).mono ?_);(case side1=>exact cc_ (Kd.C_below HR1.out HB.out));(case side2=>exact HC1.out);rintro e w94 ⟨v24,rfl,ho0,hb⟩;refine ⟨_,rfl,?_⟩;have n0_:=rb_ HO6 hb;have n1_:=a0_ (Kd.R_elder' (rr_ HO9.out) (Kd.R_base ho0) hb);have n2_:=rb_ HO13 hb;have n3_:=a0_ (Kd.R_elder' (rr_ HO17.out) (Kd.R_base ho0) hb);have n4_:=rb_ HO21 hb;have n5_:=a0_ (Kd.R_lower (Kd.R_new' (Kd.R_new' ho0 (Kd.R_lt (rr_ HO9.out))) (Kd.R_lt (rr_ HO17.out))) (below_size hbw_));have n6_:=kb_ BK1 hb;have n7_:=kb_ BK14 hb;have n8_:=a0_ (below_step hbw_ hb);clear HO6 HO9;clear HO13 HO17;clear HO21 BK1;clear BK14 HB;have HO6:=n0_;have HO9:=n1_;have HO13:=n2_;have HO17:=n3_;have HO21:=n4_;have HO25:=n5_;have BK1:=n6_;have BK14:=n7_;have HB:=n8_;clear n0_ n1_ n2_ n3_ n4_ n5_ n6_ n7_ n8_;(try clear hb);(try clear ho0);obtain ⟨Ao95,co95,eo95⟩:=Kd.R_slice HO25.out;subst eo95) | ((with_reducible refine gate_callee (f:=46) rfl ?_);refine goesL_ (some 43) rfl rfl Try.func46 (by kernel_rfl) rfl #[.slice Ao88 t15.length co88,.slice Ao95 t23.length co95] rfl lm_ ?_;(with_reducible refine (laws_eqLineS.calls k _ _ t15 _ _ t23 false _ ?side1 ?side2 ?side3 ?side4 A43.out).mono ?_);(case side1=>exact cc_ (Kd.R_reads' HO17.out).2.2);(case side2=>exact (Kd.R_reads' HO17.out).2.1);(case side3=>exact cc_ (Kd.R_reads' HO25.out).2.2);(case side4=>exact (Kd.R_reads' HO25.out).2.1);rintro e w96 ⟨rfl,hb⟩;refine ⟨_,rfl,?_⟩;replace HO6:=rb_ HO6 hb;replace HO9:=rb_ HO9 hb;replace HO13:=rb_ HO13 hb;replace HO17:=rb_ HO17 hb;replace HO21:=rb_ HO21 hb;replace HO25:=rb_ HO25 hb;replace BK1:=kb_ BK1 hb;replace BK14:=kb_ BK14 hb;replace HB:=a0_ (below_step hbw_ hb);(try clear hb);(try clear hb2);(try clear hk);(try clear hi)))
      go_ret
      exact ⟨by first | rfl | (simp [errW_none,errW_some] <;> rfl) | (simp [*,errW_none,errW_some] <;> rfl),hbw_⟩
    ·replace c41:=Bool.eq_false_iff.mpr c41
     subst c41
     have H1 : (some false) = some r:=by rw [if_neg (show ¬ (false = true) by decide)] at H;exact H
     clear H
     have H:=H1
     clear H1
     obtain rfl:=Option.some.inj H
     go_enter Try.func7,Try.ntmps7
     try go_wp2_with (first | ((with_reducible refine gate_dst (N:=2) rfl ?_);refine box_event ?hg (N:=2) ?hd (cs:=#[.slice A0_0 l0_0.length c0_0]) (t:=38) ?hr ?_;(case hd=>rfl);(case hg=>rfl);(case hr=>first | (go_simp;done) | (go_simp;rfl));intro gb1 hg w97 hbox hb;have BK1:=a0_ (hbox);have GW1:=a0_ ((by rw [hg];exact (below_size hbw_) : w.heap.size ≤ gb1));have GE1:=a0_ ((by rw [hg];exact (below_size hbw_) : w.heap.size ≤ gb1));replace HB:=a0_ (below_step hbw_ hb);clear hb hbox hg;have hcz98_0 : w97.cell? ⟨gb1,0,none⟩ = some (.slice A0_0 l0_0.length c0_0):=(blk_cell BK1.out 0).trans rfl;have hfz98_0:=blk_frozen BK1.out 0) | ((with_reducible refine gate_callee (f:=21) rfl ?_);refine goesL_ (some 12) rfl rfl Try.func21 (by kernel_rfl) rfl #[.agg #[.slice A0_0 l0_0.length c0_0],.int .i64 1048576] rfl lm_ ?_;(with_reducible refine (laws_szTree.calls k _ _ l0_0 1048576 t2 _ ?side1 ?side2 A3.out).mono ?_);(case side1=>exact cc_ (Kd.C_below HR0_0.out HB.out));(case side2=>exact HC0_0.out);rintro e w99 ⟨rfl,hb⟩;refine ⟨_,rfl,?_⟩;replace BK1:=kb_ BK1 hb;replace HB:=a0_ (below_step hbw_ hb);(try clear hb);(try clear hb2);(try clear hk);(try clear hi)) | ((with_reducible refine gate_callee (f:=42) rfl ?_);refine goesL_ (some 17) rfl rfl Try.func42 (by kernel_rfl) rfl #[.slice A1 l1.length c1,.int .i64 t2] rfl lm_ ?_;(with_reducible refine (laws_szLineS.calls _ _ l1 t2 t3 _ ?side1 ?side2 A8.out).mono ?_);(case side1=>exact cc_ (Kd.C_below HR1.out HB.out));(case side2=>exact HC1.out);rintro e w' ⟨rfl,⟨nd,rfl⟩⟩;refine ⟨_,rfl,?_⟩;(try (rw [drewN_self w99];generalize hq_ : World.drewN w99 _ = w99;have n0_ : Aside0 (w99.heap[gb1]? = some (.cells #[.slice A0_0 l0_0.length c0_0] 38 (0,0))):=⟨by rw [← hq_];exact (bb_ BK1.out)⟩;have n1_ : Aside0 (Below w.heap.size w w99):=⟨by rw [← hq_];exact hbw_⟩;clear BK1 HB hq_;have BK1:=n0_;have HB:=n1_;clear n0_ n1_));have hcz100_0 : w99.cell? ⟨gb1,0,none⟩ = some (.slice A0_0 l0_0.length c0_0):=(blk_cell BK1.out 0).trans rfl;have hfz100_0:=blk_frozen BK1.out 0) | ((with_reducible refine gate_callee (f:=24) rfl ?_);refine goesL_ (some 21) rfl rfl Try.func24 (by kernel_rfl) rfl #[.agg #[.slice A0_0 l0_0.length c0_0]] rfl lm_ ?_;(with_reducible refine (laws_toTree.calls k _ _ l0_0 t4 _ ?side1 ?side2 A13.out).mono ?_);(case side1=>exact cc_ (Kd.C_below HR0_0.out HB.out));(case side2=>exact HC0_0.out);rintro e w101 ⟨v5,rfl,ho0,hb⟩;refine ⟨_,rfl,?_⟩;have HO6:=a0_ (Kd.R_lower ho0 (below_size hbw_));replace BK1:=kb_ BK1 hb;replace HB:=a0_ (below_step hbw_ hb);(try clear hb);(try clear ho0)) | ((with_reducible refine gate_callee (f:=44) rfl ?_);refine goesL_ (some 23) rfl rfl Try.func44 (by kernel_rfl) rfl #[.slice A1 l1.length c1] rfl lm_ ?_;(with_reducible refine (laws_toLineS.calls k _ _ l1 t7 _ ?side1 ?side2 A14.out).mono ?_);(case side1=>exact cc_ (Kd.C_below HR1.out HB.out));(case side2=>exact HC1.out);rintro e w102 ⟨v8,rfl,ho0,hb⟩;refine ⟨_,rfl,?_⟩;replace HO6:=rb_ HO6 hb;have HO9:=a0_ (Kd.R_lower ho0 (below_size hbw_));replace BK1:=kb_ BK1 hb;replace HB:=a0_ (below_step hbw_ hb);(try clear hb);(try clear ho0);obtain ⟨Ao103,co103,eo103⟩:=Kd.R_slice HO6.out;subst eo103;obtain ⟨Ao104,co104,eo104⟩:=Kd.R_slice HO9.out;subst eo104) | ((with_reducible refine gate_callee (f:=43) rfl ?_);refine goesL_ (some 24) rfl rfl Try.func43 (by kernel_rfl) rfl #[.agg #[.slice Ao103 t4.length co103],.slice Ao104 t7.length co104] rfl lm_ ?_;(with_reducible refine (spec_ValidProgram.calls k _ _ t4 _ _ t7 t10 _ ?side1 ?side2 ?side3 ?side4 A15.out).mono ?_);(case side1=>exact cc_ (Kd.R_reads' HO6.out).2.2);(case side2=>exact (Kd.R_reads' HO6.out).2.1);(case side3=>exact cc_ (Kd.R_reads' HO9.out).2.2);(case side4=>exact (Kd.R_reads' HO9.out).2.1);rintro e w105 ⟨rfl,hb⟩;refine ⟨_,rfl,?_⟩;replace HO6:=rb_ HO6 hb;replace HO9:=rb_ HO9 hb;replace BK1:=kb_ BK1 hb;replace HB:=a0_ (below_step hbw_ hb);(try clear hb);have hcz106_0 : w105.cell? ⟨gb1,0,none⟩ = some (.slice A0_0 l0_0.length c0_0):=(blk_cell BK1.out 0).trans rfl;have hfz106_0:=blk_frozen BK1.out 0) | ((with_reducible refine gate_callee (f:=24) rfl ?_);refine goesL_ (some 26) rfl rfl Try.func24 (by kernel_rfl) rfl #[.agg #[.slice A0_0 l0_0.length c0_0]] rfl lm_ ?_;(with_reducible refine (laws_toTree.calls k _ _ l0_0 t11 _ ?side1 ?side2 A16.out).mono ?_);(case side1=>exact cc_ (Kd.C_below HR0_0.out HB.out));(case side2=>exact HC0_0.out);rintro e w107 ⟨v12,rfl,ho0,hb⟩;refine ⟨_,rfl,?_⟩;have n0_:=a0_ (Kd.R_elder' (rr_ HO6.out) (Kd.R_base ho0) hb);have n1_:=rb_ HO9 hb;have n2_:=a0_ (Kd.R_lower (Kd.R_new' ho0 (Kd.R_lt (rr_ HO6.out))) (below_size hbw_));have n3_:=kb_ BK1 hb;have n4_:=a0_ (below_step hbw_ hb);clear HO6 HO9;clear BK1 HB;have HO6:=n0_;have HO9:=n1_;have HO13:=n2_;have BK1:=n3_;have HB:=n4_;clear n0_ n1_ n2_ n3_ n4_;(try clear hb);(try clear ho0)) | ((with_reducible refine gate_dst (N:=7) rfl ?_);refine box_event ?hg (N:=7) ?hd (cs:=#[.slice none 0 0]) (t:=25) ?hr ?_;(case hd=>rfl);(case hg=>rfl);(case hr=>first | (go_simp;done) | (go_simp;rfl));intro gb14 hg w108 hbox hb;have n0_:=rb_ HO6 hb;have n1_:=rb_ HO9 hb;have n2_:=rb_ HO13 hb;have n3_:=kb_ BK1 hb;have n4_:=a0_ (below_step hbw_ hb);have n5_:=a0_ (hbox);have n6_:=a0_ ((by rw [hg];exact (below_size hbw_) : w.heap.size ≤ gb14));have n7_:=a0_ ((by rw [hg];exact (below_size hbw_) : w.heap.size ≤ gb14));have n8_:=a0_ ((by rw [hg];exact Nat.ne_of_lt (blk_lt (bb_ BK1.out)) : gb1 ≠ gb14));have n9_:=a0_ ((by rw [hg];exact Nat.ne_of_gt (blk_lt (bb_ BK1.out)) : gb14 ≠ gb1));clear HO6 HO9;clear HO13 BK1 HB;have HO6:=n0_;have HO9:=n1_;have HO13:=n2_;have BK1:=n3_;have HB:=n4_;have BK14:=n5_;have GW14:=n6_;have GE14:=n7_;have NB1_14:=n8_;have NB14_1:=n9_;clear n0_ n1_ n2_ n3_ n4_ n5_ n6_ n7_ n8_ n9_;clear hb hbox hg;obtain ⟨Ao109,co109,eo109⟩:=Kd.R_slice HO13.out;subst eo109;have hnb110:=NB14_1.out;have hnc110:=NB1_14.out;have hcz111_0 : w108.cell? ⟨gb14,0,none⟩ = some (.slice none 0 0):=(blk_cell BK14.out 0).trans rfl;have hfz111_0:=blk_frozen BK14.out 0) | ((with_reducible refine gate_callee (f:=44) rfl ?_);refine goesL_ (some 28) rfl rfl Try.func44 (by kernel_rfl) rfl #[.slice A1 l1.length c1] rfl lm_ ?_;(with_reducible refine (laws_toLineS.calls k _ _ l1 t15 _ ?side1 ?side2 A17.out).mono ?_);(case side1=>exact Kd.C_below HR1.out hbw_);(case side2=>exact HC1.out);rintro e w112 ⟨v16,rfl,ho0,hb⟩;refine ⟨_,rfl,?_⟩;have n0_:=a0_ (Kd.R_below (by (with_reducible repeat (first | apply Kd.R_alloc | apply Kd.R_drewN | apply Kd.R_drew));exact (Kd.R_mono (Kd.R_far (p:=⟨gb14,0,none⟩) (Kd.R_types HO6.out BK14.out (by decide)) (fun _ hk=>hk.2) (.slice Ao109 t11.length co109)) (fun _ h_=>h_.1))) hb);have n1_:=a0_ (Kd.R_elder' (by (with_reducible repeat (first | apply Kd.R_alloc | apply Kd.R_drewN | apply Kd.R_drew));exact (Kd.R_mono (Kd.R_far (p:=⟨gb14,0,none⟩) (Kd.R_types HO9.out BK14.out (by decide)) (fun _ hk=>hk.2) (.slice Ao109 t11.length co109)) (fun _ h_=>h_.1))) (Kd.R_base ho0) hb);have n2_:=a0_ (Kd.R_below (by (with_reducible repeat (first | apply Kd.R_alloc | apply Kd.R_drewN | apply Kd.R_drew));exact (Kd.R_mono (Kd.R_far (p:=⟨gb14,0,none⟩) (Kd.R_types HO13.out BK14.out (by decide)) (fun _ hk=>hk.2) (.slice Ao109 t11.length co109)) (fun _ h_=>h_.1))) hb);have n3_:=a0_ (Kd.R_lower (Kd.R_new' ho0 (Kd.R_lt (by (with_reducible repeat (first | apply Kd.R_alloc | apply Kd.R_drewN | apply Kd.R_drew));exact (Kd.R_mono (Kd.R_far (p:=⟨gb14,0,none⟩) (Kd.R_types HO9.out BK14.out (by decide)) (fun _ hk=>hk.2) (.slice Ao109 t11.length co109)) (fun _ h_=>h_.1))))) (below_size hbw_));have n4_:=kf_ BK1 NB1_14 hb;have n5_:=a0_ (blk_below (g:=gb14) (o:=.cells #[.slice Ao109 t11.length co109] 25 (0,0)) (by (with_reducible repeat (first | refine blk_drewN ?_ _ | refine blk_drew ?_ | refine blk_alloc ?_ _));refine blk_put (cs:=#[.slice none 0 0]) ?_ 0 _ rfl;(with_reducible repeat (first | refine blk_drewN ?_ _ | refine blk_drew ?_ | refine blk_alloc ?_ _));exact BK14.out) hb);have n6_:=a0_ (below_step hbw_ hb);clear HO6 HO9;clear HO13 BK1;clear BK14 HB;have HO6:=n0_;have HO9:=n1_;have HO13:=n2_;have HO17:=n3_;have BK1:=n4_;have BK14:=n5_;have HB:=n6_;clear n0_ n1_ n2_ n3_ n4_ n5_ n6_;(try clear hb);(try clear ho0);have hcz113_0 : w112.cell? ⟨gb14,0,none⟩ = some (.slice Ao109 t11.length co109):=(blk_cell BK14.out 0).trans rfl;have hfz113_0:=blk_frozen BK14.out 0;obtain ⟨Ao114,co114,eo114⟩:=Kd.R_slice HO17.out;subst eo114) | ((with_reducible refine gate_callee (f:=45) rfl ?_);refine goesL_ (some 31) rfl rfl Try.func45 (by kernel_rfl) rfl #[.agg #[.slice Ao109 t11.length co109],.slice Ao114 t15.length co114] rfl lm_ ?_;(with_reducible refine (impl_ValidProgram.calls k _ _ t11 _ _ t15 t18 _ ?side1 ?side2 ?side3 ?side4 A18.out).mono ?_);(case side1=>exact cc_ (Kd.R_reads' HO13.out).2.2);(case side2=>exact (Kd.R_reads' HO13.out).2.1);(case side3=>exact cc_ (Kd.R_reads' HO17.out).2.2);(case side4=>exact (Kd.R_reads' HO17.out).2.1);rintro e w115 ⟨rfl,hb⟩;refine ⟨_,rfl,?_⟩;replace HO6:=rb_ HO6 hb;replace HO9:=rb_ HO9 hb;replace HO13:=rb_ HO13 hb;replace HO17:=rb_ HO17 hb;replace BK1:=kb_ BK1 hb;replace BK14:=kb_ BK14 hb;replace HB:=a0_ (below_step hbw_ hb);(try clear hb);(try clear hb2);(try clear hk);(try clear hi)))
     have n0_:=a0_ (Kd.R_drew HO6.out)
     have n1_:=a0_ (Kd.R_drew HO9.out)
     have n2_:=a0_ (Kd.R_drew HO13.out)
     have n3_:=a0_ (Kd.R_drew HO17.out)
     have n4_:=a0_ (blk_drew BK1.out)
     have n5_:=a0_ (blk_drew BK14.out)
     have n6_:=a0_ (below_drew1 HB.out)
     clear HO6
     clear HO9
     clear HO13
     clear HO17
     clear BK1
     clear BK14
     clear HB
     have HO6:=n0_
     have HO9:=n1_
     have HO13:=n2_
     have HO17:=n3_
     have BK1:=n4_
     have BK14:=n5_
     have HB:=n6_
     clear n0_ n1_ n2_ n3_ n4_ n5_ n6_
     refine start_ (n:=5) (S:=fun w'=>w'.cell? ⟨gb14,0,none⟩ = some (.slice Ao109 t11.length co109) ∧ w'.cell? ⟨gb1,0,none⟩ = some (.slice A0_0 l0_0.length c0_0)) (ds:=[]) #[false,false,false,false,false] (by kernel_rfl) rfl rfl ⟨(blk_cell BK14.out 0).trans rfl,(blk_cell BK1.out 0).trans rfl⟩ (fun hHeld=>?_)
     generalize w115.drew = w116 at HO6 HO9 HO13 HO17 BK1 BK14 HB hHeld ⊢
     refine take_ (i:=0) (N:=some 35) (v:=?_) (a':=?_) #[true,false,false,false,false] rfl rfl (by kernel_rfl) (fun _ _ _ h=>h) (Or.inl ⟨by rfl,?_⟩) hHeld ?_ ?_
     rotate_left
     ·rintro w' ⟨s0,s1⟩
      go_simp
      with_reducible rfl
     rotate_left
     ·simp only [Act.put,s1_,s2_,s3_,i64_w,i32_w]
      rfl
     refine take_ (i:=1) (N:=some 36) (v:=?_) (a':=?_) #[true,true,false,false,false] rfl rfl (by kernel_rfl) (fun _ _ _ h=>h) (Or.inl ⟨by rfl,?_⟩) hHeld ?_ ?_
     rotate_left
     ·rintro w' ⟨s0,s1⟩
      go_simp
      with_reducible rfl
     rotate_left
     ·simp only [Act.put,s1_,s2_,s3_,i64_w,i32_w]
      rfl
     refine one_ (i:=2) (N:=some 37) #[true,true,true,false,false] rfl rfl (by kernel_rfl) (by decide) (fun K hK=>?_)
     refine goes_ Try.func24 (by kernel_rfl) rfl #[.agg #[.slice A0_0 l0_0.length c0_0]] (by rfl) rfl rfl lm_ ?_
     with_reducible refine (laws_toTree.calls k _ _ l0_0 t19 _ ?side1 ?side2 A39.out).mono ?_
     (case side1=>exact cc_ (Kd.C_below HR0_0.out HB.out))
     (case side2=>exact HC0_0.out)
     rintro e w117 ⟨v20,rfl,ho0,hb⟩
     refine ⟨_,rfl,?_⟩
     have n0_:=a0_ (Kd.R_elder' (rr_ HO6.out) (Kd.R_base ho0) hb)
     have n1_:=rb_ HO9 hb
     have n2_:=a0_ (Kd.R_elder' (rr_ HO13.out) (Kd.R_base ho0) hb)
     have n3_:=rb_ HO17 hb
     have n4_:=a0_ (Kd.R_lower (Kd.R_new' (Kd.R_new' ho0 (Kd.R_lt (rr_ HO6.out))) (Kd.R_lt (rr_ HO13.out))) (below_size hbw_))
     have n5_:=kb_ BK1 hb
     have n6_:=kb_ BK14 hb
     have n7_:=a0_ (below_step hbw_ hb)
     clear HO6
     clear HO9
     clear HO13
     clear HO17
     clear BK1
     clear BK14
     clear HB
     have HO6:=n0_
     have HO9:=n1_
     have HO13:=n2_
     have HO17:=n3_
     have HO21:=n4_
     have BK1:=n5_
     have BK14:=n6_
     have HB:=n7_
     clear n0_ n1_ n2_ n3_ n4_ n5_ n6_ n7_
     (try clear hb)
     (try clear hb2)
     (try clear hk)
     (try clear hi)
     (try clear ho0)
     obtain ⟨Ao118,co118,eo118⟩:=Kd.R_slice HO21.out
     (first | subst eo118 | (injection eo118 with f1_ f2_ f3_;have f4_:=f1_.symm;have f5_:=f3_.symm;clear f1_ f2_ f3_;subst f4_;subst f5_))
     refine hK.out _ _ ⟨(blk_cell BK14.out 0).trans rfl,(blk_cell BK1.out 0).trans rfl⟩ (fun hHeld=>?_)
     clear hK K
     refine norm_ (a':=?_) ?_ ?_
     rotate_left
     ·show Act.put _ (some 37) _ = _
      simp only [Act.put,s1_,s2_,s3_,i64_w,i32_w]
      rfl
     refine one_ (i:=3) (N:=some 38) #[true,true,true,true,false] rfl rfl (by kernel_rfl) (by decide) (fun K hK=>?_)
     refine goes_ Try.func27 (by kernel_rfl) rfl #[.agg #[.slice Ao109 t11.length co109],.agg #[.slice Ao118 t19.length co118]] (by rfl) rfl rfl lm_ ?_
     with_reducible refine (laws_eqTree.calls k _ _ t11 _ _ t19 false _ ?side1 ?side2 ?side3 ?side4 A40.out).mono ?_
     (case side1=>exact cc_ (Kd.R_reads' HO13.out).2.2)
     (case side2=>exact (Kd.R_reads' HO13.out).2.1)
     (case side3=>exact cc_ (Kd.R_reads' HO21.out).2.2)
     (case side4=>exact (Kd.R_reads' HO21.out).2.1)
     rintro e w119 ⟨rfl,hb⟩
     refine ⟨_,rfl,?_⟩
     have n0_:=rb_ HO6 hb
     have n1_:=rb_ HO9 hb
     have n2_:=rb_ HO13 hb
     have n3_:=rb_ HO17 hb
     have n4_:=rb_ HO21 hb
     have n5_:=kb_ BK1 hb
     have n6_:=kb_ BK14 hb
     have n7_:=a0_ (below_step hbw_ hb)
     clear HO6
     clear HO9
     clear HO13
     clear HO17
     clear HO21
     clear BK1
     clear BK14
     clear HB
     have HO6:=n0_
     have HO9:=n1_
     have HO13:=n2_
     have HO17:=n3_
     have HO21:=n4_
     have BK1:=n5_
     have BK14:=n6_
     have HB:=n7_
     clear n0_ n1_ n2_ n3_ n4_ n5_ n6_ n7_
     (try clear hb)
     (try clear hb2)
     (try clear hk)
     (try clear hi)
     refine hK.out _ _ ⟨(blk_cell BK14.out 0).trans rfl,(blk_cell BK1.out 0).trans rfl⟩ (fun hHeld=>?_)
     clear hK K
     refine norm_ (a':=?_) ?_ ?_
     rotate_left
     ·show Act.put _ (some 38) _ = _
      simp only [Act.put,s1_,s2_,s3_,i64_w,i32_w]
      rfl
     refine pure_ (i:=4) (N:=some 39) (v:=?_) (a':=?_) #[true,true,true,true,true] rfl rfl (by kernel_rfl) (fun _ _ _ h=>h) (Or.inl ⟨by rfl,?_⟩) ?_ ?_
     rotate_left
     ·intro w'
      go_simp
      with_reducible rfl
     rotate_left
     ·simp only [Act.put,s1_,s2_,s3_,i64_w,i32_w]
      rfl
     refine done_ (by kernel_rfl) ?_
     try go_wp2
     go_ret
     exact ⟨by first | rfl | (simp [errW_none,errW_some] <;> rfl) | (simp [*,errW_none,errW_some] <;> rfl),hbw_⟩
end Go.Proofs.Ytacgehaipacehaa.P
namespace Go.Proofs.Ytacgehaipacehaa.Pure
open Go.RowKit Go.Proofs.Ytacgehaipacehaa.P
set_option linter.unusedVariables false
theorem FnExactValidProgram (l0_0 : List S153) (l1 : List S129) (G0_0 : (l0_0.length ≤ maxLen ∧ ∀ x ∈ l0_0,(x.f0.size ≤ maxLen ∧ (Lit.int .i64 x.f1).wf = true))) (g1 : (l1.length ≤ maxLen ∧ ∀ x ∈ l1,((Lit.int .i64 x.f0).wf = true ∧ (Lit.int .i64 x.f1).wf = true ∧ (Lit.int .i64 x.f2).wf = true ∧ (Lit.int .i64 x.f3).wf = true))) : ∃ k,laws_FnExactValidProgram.f k l0_0 l1 = some true:=by
 have hmax : maxLen = 9223372036854775807:=by decide
 rw [hmax] at G0_0 g1
 refine Ev.out (F:=fun k=>laws_FnExactValidProgram.f k l0_0 l1) ?_
 unfold laws_FnExactValidProgram.f
 obtain ⟨v0,hv0,hg0⟩:=laws_szTree_ev l0_0 1048576 (by omega) (by omega) G0_0.1 (fun x hx=>(G0_0.2 x hx).1)
 refine Ev.bind hv0 ?_
 by_cases hn0 : v0 < 0
 ·exact Ev.pos hn0 (Ev.const rfl)
 refine Ev.neg hn0 ?_
 obtain ⟨hva0,hl0,hs⟩:=hg0 (by omega)
 obtain ⟨v1,hv1,hg1⟩:=laws_szLineS_ev l1 v0 (by omega) (by omega) g1.1
 refine Ev.bind hv1 ?_
 by_cases hn1 : v1 < 0
 ·exact Ev.pos hn1 (Ev.const rfl)
 refine Ev.neg hn1 ?_
 obtain ⟨hva1,hl1⟩:=hg1 (by omega)
 have hT0:=laws_toTree_ev l0_0 (by omega)
 have hm0 : (l0_0.map toC).length ≤ 1048576:=by rw [List.length_map];omega
 have hT1:=laws_toLineS_ev l1 (by omega)
 have hm1 : (l1.map toLine).length ≤ 1048576:=by rw [List.length_map];omega
 have hsm:=smT_of hs
 obtain ⟨b1,hS,h1⟩:=spec_ValidProgram_ev (l0_0.map toC) (l1.map toLine) hsm (by omega) (by omega)
 obtain ⟨b2,hG,h2⟩:=impl_ValidProgram_ev (l0_0.map toC) (l1.map toLine) hsm (by omega) (by omega)
 obtain rfl : b1 = b2:=Bool.eq_iff_iff.2 (h1.trans h2.symm)
 refine Ev.bind hT0 (Ev.bind hT1 (Ev.bind hS (Ev.bind hT0 (Ev.bind hT1 (Ev.bind hG (Ev.neg (by simp) ?_))))))
 exact Ev.bind hT0 (Ev.bind (laws_eqTree_ev _ (by omega)) (Ev.pos rfl (Ev.bind hT1 (Ev.bind (laws_eqLineS_ev _ (by omega)) (Ev.pos rfl (Ev.const rfl))))))
end Go.Proofs.Ytacgehaipacehaa.Pure
