/- Texts under the proof of FnExactLeavesOf: helper words, the functions' contracts and the plain laws. No condition. -/
import Derived.Test.YtdepjpjgecdcjaaQFnExactLeavesOfa
import Derived.Test.YtdepjpjgecdcjaaQFnExactLeavesOfb
namespace Go.Proofs.Ytdepjpjgecdcjaa.P
open Go.RowKit Go.Proofs.YtdepjpjgecdcjaaW.PrintWords Go.Proofs.YtdepjpjgecdcjaaW.PrintLast Go.Proofs.YtdepjpjgecdcjaaW.PrintMore
attribute [local go_sem] max2_int min2_int max_two min_two max_three min_three max_four min_four
set_option linter.unusedVariables false
set_option linter.unusedSimpArgs false
def impl_LeavesOf.l0 : Nat → List (S76) → List (S63) → Int → Int → Option ((List (S76)))
 | 0,_,_,_,_=>none
 | k + 1,x5,x15,x16,x17=>if x17 < x16 then (if 0 ≤ x17 then (if x17 < (x15.length : Int) then (if ((rd_T63 x15 x17).f1 = true) then (impl_LeavesOf.l0 k x5 x15 x16 (wrap64 (x17 + 1))) else (if x5.length < 8796093022208 then (impl_LeavesOf.l0 k (x5 ++ [(⟨(rd_T63 x15 x17).f2,(rd_T63 x15 x17).f3⟩ : S76)]) x15 x16 (wrap64 (x17 + 1))) else (none))) else (none)) else (none)) else (if 0 ≤ (x5.length : Int) then (if (x5.length : Int) ≤ (x5.length : Int) then (some (x5.take ((x5.length : Int) : Int).toNat)) else (none)) else (none))
def impl_LeavesOf.f (k : Nat) (l0_0 : List (S89)) (l1 : List (S63)) : Option ((List (S76))):=(impl_ValidGroup.f k l0_0 l1).bind fun t2=>(if t2 = true then (if 0 ≤ (l1.length : Int) then (if ((l1.length : Int) : Int).toNat ≤ 17592186044416 then (impl_LeavesOf.l0 k (([] : List (S76))) l1 (l1.length : Int) 0) else (none)) else (none)) else (some ([] : List (S76))))
theorem impl_LeavesOf.mono_l : ∀ k,(∀ y0 y1 y2 y3,LeO (impl_LeavesOf.l0 k y0 y1 y2 y3) (impl_LeavesOf.l0 (k + 1) y0 y1 y2 y3))
 | 0=>fun _ _ _ _ r h=>by simp [impl_LeavesOf.l0] at h
 | k + 1=>by
  have ih0:=impl_LeavesOf.mono_l k
  ·intro y0 y1 y2 y3
   unfold impl_LeavesOf.l0
   repeat' first
   | (with_reducible exact ih0 _ _ _ _)
   | (with_reducible exact impl_ValidGroup.mono _ _ _)
   | (with_reducible exact LeO.refl _)
   | (with_reducible exact LeO.none _)
   | (with_reducible refine LeO.ite ?_ ?_)
   | (with_reducible refine LeO.bind ?_ (fun _=>?_))
   | exact ih0 _ _ _ _
   | exact impl_ValidGroup.mono _ _ _
   | exact LeO.none _
   | refine LeO.ite ?_ ?_
   | refine LeO.bind ?_ (fun _=>?_)
theorem impl_LeavesOf.mono : ∀ a0 a1 k,LeO (impl_LeavesOf.f k a0 a1) (impl_LeavesOf.f (k + 1) a0 a1):=by
 intro a0 a1 k
 have ih0:=impl_LeavesOf.mono_l k
 unfold impl_LeavesOf.f
 repeat' first
   | (with_reducible exact ih0 _ _ _ _)
   | (with_reducible exact impl_ValidGroup.mono _ _ _)
   | (with_reducible exact LeO.refl _)
   | (with_reducible exact LeO.none _)
   | (with_reducible refine LeO.ite ?_ ?_)
   | (with_reducible refine LeO.bind ?_ (fun _=>?_))
   | exact ih0 _ _ _ _
   | exact impl_ValidGroup.mono _ _ _
   | exact LeO.none _
   | refine LeO.ite ?_ ?_
   | refine LeO.bind ?_ (fun _=>?_)
set_option maxHeartbeats 8000000 in
set_option maxRecDepth 100000 in
theorem impl_LeavesOf.calls (k : Nat) (A0_0 : Option Addr) (c0_0 : Nat) (l0_0 : List (S89)) (A1 : Option Addr) (c1 : Nat) (l1 : List (S63)) (r : List (S76)) (w : World) (hr0_0 : Kd.C k89 w A0_0 l0_0.length l0_0) (hc0_0 : l0_0.length ≤ c0_0) (hr1 : Kd.C k63 w A1 l1.length l1) (hc1 : l1.length ≤ c1) (h : impl_LeavesOf.f k l0_0 l1 = some r) :
  Calls Try.prog 24 #[.agg #[.slice A0_0 l0_0.length c0_0],.slice A1 l1.length c1] w fun e w'=>∃ v0_ : Value,e = .returned (v0_) ∧ Kd.R k76 76 w' w.heap.size (fun _=>True) v0_ r ∧ Below w.heap.size w w':=by
 have hu31:=Try.underlying31
 have hu63:=Try.underlying63
 have hu76:=Try.underlying76
 have HR0_0:=a0_ hr0_0
 have HC0_0:=a0_ hc0_0
 clear hr0_0 hc0_0
 have HR1:=a0_ hr1
 have HC1:=a0_ hc1
 clear hr1 hc1
 have HB:=a0_ (Below.refl w.heap.size w)
 have H : ((impl_ValidGroup.f k l0_0 l1).bind fun t2=>(if t2 = true then (if 0 ≤ (l1.length : Int) then (if ((l1.length : Int) : Int).toNat ≤ 17592186044416 then (impl_LeavesOf.l0 k (([] : List (S76))) l1 (l1.length : Int) 0) else (none)) else (none)) else (some ([] : List (S76))))) = some r:=h
 clear h
 replace H:=Option.bind_eq_some_iff.mp H
 obtain ⟨t2,A30,H⟩:=H
 replace H : (if t2 = true then (if 0 ≤ (l1.length : Int) then (if ((l1.length : Int) : Int).toNat ≤ 17592186044416 then (impl_LeavesOf.l0 k (([] : List (S76))) l1 (l1.length : Int) 0) else (none)) else (none)) else (some ([] : List (S76)))) = some r:=H
 have A3:=a0_ A30
 clear A30
 by_cases c4 : t2 = true
 ·subst c4
  have H1 : (if 0 ≤ (l1.length : Int) then (if ((l1.length : Int) : Int).toNat ≤ 17592186044416 then (impl_LeavesOf.l0 k (([] : List (S76))) l1 (l1.length : Int) 0) else (none)) else (none)) = some r:=by rw [if_pos rfl] at H;exact H
  clear H
  have H:=H1
  clear H1
  by_cases c5 : 0 ≤ (l1.length : Int)
  ·rw [if_pos c5] at H
   have c5b0:=eq_true c5
   have c5b1 : decide (0 ≤ (l1.length : Int)) = true:=decide_eq_true c5
   clear c5
   by_cases c6 : ((l1.length : Int) : Int).toNat ≤ 17592186044416
   ·rw [if_pos c6] at H
    have c6b0:=eq_true c6
    have c6b1 : decide (((l1.length : Int) : Int).toNat ≤ 17592186044416) = true:=decide_eq_true c6
    clear c6
    obtain ⟨y3,hy3⟩ : ∃ y_ : List (S76),y_ = (([] : List (S76))):=⟨_,rfl⟩
    replace H : (impl_LeavesOf.l0 k y3 l1 (l1.length : Int) 0) = some r:=by first | (rw [hy3];with_reducible exact H) | (have H2_:=(Option.bind_some _ _).symm.trans H;rw [hy3];with_reducible exact H2_) | (have H2_:=(Option.bind_some _ _).symm.trans H;with_reducible exact H2_) | with_reducible exact H | (rw [hy3];exact H) | exact H
    have Ny3:=a0_ hy3
    clear hy3
    have H':=a0_ H
    clear H
    go_enter Try.func24,Try.ntmps24
    go_wp2_with (first | ((with_reducible refine gate_dst (N:=2) rfl ?_);refine box_event ?hg (N:=2) ?hd (cs:=#[.slice A0_0 l0_0.length c0_0]) (t:=31) ?hr ?_;(case hd=>rfl);(case hg=>rfl);(case hr=>first | (go_simp;done) | (go_simp;rfl));intro gb1 hg w7 hbox hb;have n0_:=a0_ (below_step hb_ hb);have n1_:=a0_ (hbox);have n2_:=a0_ ((by rw [hg];exact (below_size hb_) : w.heap.size ≤ gb1));have n3_:=a0_ ((by rw [hg];exact (below_size hb_) : w.heap.size ≤ gb1));clear HB;have HB:=n0_;have BK1:=n1_;have GW1:=n2_;have GE1:=n3_;clear n0_ n1_ n2_ n3_;clear hb hbox hg;have hcz8_0 : w7.cell? ⟨gb1,0,none⟩ = some (.slice A0_0 l0_0.length c0_0):=(blk_cell BK1.out 0).trans rfl;have hfz8_0:=blk_frozen BK1.out 0) | ((with_reducible refine gate_callee (f:=47) rfl ?_);refine goesL_ (some 10) rfl rfl Try.func47 (by kernel_rfl) rfl #[.agg #[.slice A0_0 l0_0.length c0_0],.slice A1 l1.length c1] rfl lm_ ?_;(with_reducible refine (impl_ValidGroup.calls k _ _ l0_0 _ _ l1 true _ ?side1 ?side2 ?side3 ?side4 A3.out).mono ?_);(case side1=>exact cc_ (Kd.C_below HR0_0.out HB.out));(case side2=>exact HC0_0.out);(case side3=>exact cc_ (Kd.C_below HR1.out HB.out));(case side4=>exact HC1.out);rintro e w9 ⟨rfl,hb⟩;refine ⟨_,rfl,?_⟩;have n0_:=a0_ (blk_below (g:=gb1) (o:=.cells #[.slice A0_0 l0_0.length c0_0] 31 (0,0)) (bb_ BK1.out) hb);have n1_:=a0_ (below_step hb_ hb);clear BK1 HB;have BK1:=n0_;have HB:=n1_;clear n0_ n1_;(try clear hb);(try clear hb2);(try clear hk);(try clear hi)) | ((with_reducible refine gate_dst (N:=14) rfl ?_);refine Kd.R_make0 k76 _ 76 rfl (N:=14) rfl 42 _ _ rfl (l1.length : Int) rfl rfl Try.underlying42 (.agg #[(.int .i64 0),(.int .i64 0)]) 16 info76 rfl (by decide) (by omega) z76 (ok:=fun _=>True) (okp:=fun _=>True) (k76_mkM _ _ _ z76 ) (fun _ hk=>hk) trivial (of_decide_eq_true (by first | (with_reducible assumption) | assumption)) (Nat.le_trans (Nat.mul_le_mul_right _ (of_decide_eq_true (by first | (with_reducible assumption) | assumption) : (l1.length : Int).toNat ≤ 17592186044416)) (by omega)) (Below.refl _ _) (Nat.le_refl _) ?_;intro v4 w10 ho11 hb hg_ hnew_;clear hg_ hnew_;(first | rw [← Ny3.out] at ho11 | (simp only [Int.reduceToNat] at ho11;rw [← Ny3.out] at ho11));have n0_:=a0_ (Kd.R_lower ho11 (below_size hb_));have n1_:=a0_ (blk_below (g:=gb1) (o:=.cells #[.slice A0_0 l0_0.length c0_0] 31 (0,0)) (bb_ BK1.out) hb);have n2_:=a0_ (below_step hb_ hb);clear BK1 HB;have HO5:=n0_;have BK1:=n1_;have HB:=n2_;clear n0_ n1_ n2_;clear hb ho11))
    go_loopg [5,17] k (fun kq v5 v17 w'=>∃ (x5_1 : List (S76)) (x17_1 : Int),v17 = .int .i64 x17_1 ∧ Aside0 (impl_LeavesOf.l0 kq x5_1 l1 (l1.length : Int) x17_1 = some r) ∧ Aside0 (kq ≤ k) ∧ Aside0 (Kd.R k76 76 w' w.heap.size (fun _=>True) v5 x5_1) ∧ Aside0 (w'.heap[gb1]? = some (.cells #[(.slice A0_0 l0_0.length c0_0)] 31 (0,0))) ∧ Aside0 (Below w.heap.size w w'))
    case atStart=>exact ⟨(y3),(0),(by first | rfl | (simp;done) | (simp [*];done)),H',⟨Nat.le_refl _⟩,⟨by (with_reducible repeat (first | apply Kd.R_alloc | apply Kd.R_drewN | apply Kd.R_drew));exact HO5.out⟩,⟨by (with_reducible repeat (first | refine blk_drewN ?_ _ | refine blk_drew ?_ | refine blk_alloc ?_ _));exact BK1.out⟩,⟨hb_⟩⟩
    case round =>
     clear H'
     try clear c1
     try clear c2
     try clear p2
     try clear c4
     try clear c5
     try clear c5b0
     try clear c5b1
     try clear c6
     try clear c6b0
     try clear c6b1
     try clear hcz8_0
     try clear hfz8_0
     obtain ⟨x5_1,x17_1,rfl,HA,HK1,HO_5,BK1,HB⟩:=hrel
     cases gk with
     | zero=>exact absurd HA.out (by simp [impl_LeavesOf.l0])
     | succ k1 =>
      have H:=HA.out
      clear HA
      simp only [impl_LeavesOf.l0] at H
      by_cases c12 : x17_1 < (l1.length : Int)
      ·rw [if_pos c12] at H
       have c12b0 : decide (x17_1 < (l1.length : Int)) = true:=decide_eq_true c12
       clear c12
       by_cases c13 : 0 ≤ x17_1
       ·rw [if_pos c13] at H
        have c13b0 : decide (0 ≤ x17_1) = true:=decide_eq_true c13
        clear c13
        by_cases c14 : x17_1 < (l1.length : Int)
        ·rw [if_pos c14] at H
         have c14b0 : decide (x17_1 < (l1.length : Int)) = true:=decide_eq_true c14
         clear c14
         obtain ⟨bq15,hbq15⟩ : ∃ b_ : Bool,b_ = ((rd_T63 l1 x17_1).f1):=⟨_,rfl⟩
         replace H : (if (bq15 = true) then (impl_LeavesOf.l0 k1 x5_1 l1 (l1.length : Int) (wrap64 (x17_1 + 1))) else (if x5_1.length < 8796093022208 then (impl_LeavesOf.l0 k1 (x5_1 ++ [(⟨(rd_T63 l1 x17_1).f2,(rd_T63 l1 x17_1).f3⟩ : S76)]) l1 (l1.length : Int) (wrap64 (x17_1 + 1))) else (none))) = some r:=by rw [← hbq15] at H;exact H
         have Nbq15:=a0_ hbq15
         clear hbq15
         by_cases c16 : (bq15 = true)
         ·subst c16
          have H1 : (impl_LeavesOf.l0 k1 x5_1 l1 (l1.length : Int) (wrap64 (x17_1 + 1))) = some r:=by rw [if_pos rfl] at H;exact H
          clear H
          have H:=H1
          clear H1
          have H':=a0_ H
          clear H
          have p6 : 0 ≤ (x17_1 : Int):=of_decide_eq_true (by first | (with_reducible assumption) | assumption)
          have q6 : x17_1 < (l1.length : Int):=of_decide_eq_true (by first | (with_reducible assumption) | assumption)
          obtain ⟨ad6,e6,hx6_0,hx6_1,hx6_2,hx6_3⟩:=at_T63 HR1.out x17_1 p6 q6
          (try rw [← Nbq15.out] at hx6_1)
          cases e6
          replace hx6_0:=(HB.out.cell (World.block_lt_of_cell? w _ hx6_0)).trans hx6_0
          replace hx6_1:=(HB.out.cell (World.block_lt_of_cell? w _ hx6_1)).trans hx6_1
          replace hx6_2:=(HB.out.cell (World.block_lt_of_cell? w _ hx6_2)).trans hx6_2
          replace hx6_3:=(HB.out.cell (World.block_lt_of_cell? w _ hx6_3)).trans hx6_3
          replace p6:=eq_true p6
          replace q6:=eq_true q6
          go_wp2_with (first | ((with_reducible refine gate_dst (N:=7) rfl ?_);refine box_event ?hg (N:=7) ?hd (cs:=#[.int .i64 0,.bool false,.int .i64 0,.int .i64 0]) (t:=63) ?hr ?_;(case hd=>rfl);(case hg=>rfl);(case hr=>first | (go_simp;done) | (go_simp;rfl));intro gb7 hg w17 hbox hb;have n0_:=a0_ (Kd.R_below (rr_ HO_5.out) hb);have n1_:=a0_ (blk_below (g:=gb1) (o:=.cells #[.slice A0_0 l0_0.length c0_0] 31 (0,0)) (bb_ BK1.out) hb);have n2_:=a0_ (below_step hb_ hb);have n3_:=a0_ (hbox);have n4_:=a0_ ((by rw [hg];exact (below_size hb_) : w.heap.size ≤ gb7));have n5_:=a0_ ((by rw [hg];exact (below_size hb_) : w.heap.size ≤ gb7));have n6_:=a0_ ((by rw [hg];exact Nat.ne_of_lt (blk_lt (g:=gb1) (o:=.cells #[.slice A0_0 l0_0.length c0_0] 31 (0,0)) (bb_ BK1.out)) : gb1 ≠ gb7));have n7_:=a0_ ((by rw [hg];exact Nat.ne_of_gt (blk_lt (g:=gb1) (o:=.cells #[.slice A0_0 l0_0.length c0_0] 31 (0,0)) (bb_ BK1.out)) : gb7 ≠ gb1));clear HO_5 BK1 HB;have HO_5:=n0_;have BK1:=n1_;have HB:=n2_;have BK7:=n3_;have GW7:=n4_;have GE7:=n5_;have NB1_7:=n6_;have NB7_1:=n7_;clear n0_ n1_ n2_ n3_ n4_ n5_ n6_ n7_;clear hb hbox hg;have hnb18:=NB7_1.out;have hnc18:=NB1_7.out;have hcz19_0 : w17.cell? ⟨gb7,0,none⟩ = some (.int .i64 0):=(blk_cell BK7.out 0).trans rfl;have hcz19_1 : w17.cell? ⟨gb7,1,none⟩ = some (.bool false):=(blk_cell BK7.out 1).trans rfl;have hcz19_2 : w17.cell? ⟨gb7,2,none⟩ = some (.int .i64 0):=(blk_cell BK7.out 2).trans rfl;have hcz19_3 : w17.cell? ⟨gb7,3,none⟩ = some (.int .i64 0):=(blk_cell BK7.out 3).trans rfl;have hfz19_0:=blk_frozen BK7.out 0;have hfz19_1:=blk_frozen BK7.out 1;have hfz19_2:=blk_frozen BK7.out 2;have hfz19_3:=blk_frozen BK7.out 3))
          go_roundg k1
          case measure=>have:=HK1.out;omega
          case rel=>exact ⟨(x5_1),(wrap64 (x17_1 + 1)),(by first | rfl | (simp;done) | (simp [*];done)),H',⟨by have:=HK1.out;omega⟩,⟨by (with_reducible repeat (first | apply Kd.R_alloc | apply Kd.R_drewN | apply Kd.R_drew));exact Kd.R_mono (Kd.R_far (p:=⟨gb7,3,none⟩) (Kd.R_far (p:=⟨gb7,2,none⟩) (Kd.R_far (p:=⟨gb7,1,none⟩) (Kd.R_far (p:=⟨gb7,0,none⟩) (Kd.R_types HO_5.out BK7.out (by decide)) (fun _ hk=>hk.2) (.int .i64 ((rd_T63 l1 x17_1).f0))) (fun _ hk=>hk.2) (.bool true)) (fun _ hk=>hk.2) (.int .i64 ((rd_T63 l1 x17_1).f2))) (fun _ hk=>hk.2) (.int .i64 ((rd_T63 l1 x17_1).f3))) (fun _ hk=>trivial)⟩,⟨by (with_reducible repeat (first | refine blk_drewN ?_ _ | refine blk_drew ?_ | refine blk_alloc ?_ _));refine blk_far ?_ NB1_7.out _;(with_reducible repeat (first | refine blk_drewN ?_ _ | refine blk_drew ?_ | refine blk_alloc ?_ _));refine blk_far ?_ NB1_7.out _;(with_reducible repeat (first | refine blk_drewN ?_ _ | refine blk_drew ?_ | refine blk_alloc ?_ _));refine blk_far ?_ NB1_7.out _;(with_reducible repeat (first | refine blk_drewN ?_ _ | refine blk_drew ?_ | refine blk_alloc ?_ _));refine blk_far ?_ NB1_7.out _;(with_reducible repeat (first | refine blk_drewN ?_ _ | refine blk_drew ?_ | refine blk_alloc ?_ _));exact BK1.out⟩,⟨hb_⟩⟩
         ·replace c16:=Bool.eq_false_iff.mpr c16
          subst c16
          have H1 : (if x5_1.length < 8796093022208 then (impl_LeavesOf.l0 k1 (x5_1 ++ [(⟨(rd_T63 l1 x17_1).f2,(rd_T63 l1 x17_1).f3⟩ : S76)]) l1 (l1.length : Int) (wrap64 (x17_1 + 1))) else (none)) = some r:=by rw [if_neg (show ¬ (false = true) by decide)] at H;exact H
          clear H
          have H:=H1
          clear H1
          by_cases c20 : x5_1.length < 8796093022208
          ·rw [if_pos c20] at H
           have LMc20:=a0_ c20
           clear c20
           obtain ⟨y8,hy8⟩ : ∃ y_ : List (S76),y_ = (x5_1 ++ [(⟨(rd_T63 l1 x17_1).f2,(rd_T63 l1 x17_1).f3⟩ : S76)]):=⟨_,rfl⟩
           replace H : (impl_LeavesOf.l0 k1 y8 l1 (l1.length : Int) (wrap64 (x17_1 + 1))) = some r:=by first | (rw [hy8];with_reducible exact H) | (have H2_:=(Option.bind_some _ _).symm.trans H;rw [hy8];with_reducible exact H2_) | (have H2_:=(Option.bind_some _ _).symm.trans H;with_reducible exact H2_) | with_reducible exact H | (rw [hy8];exact H) | exact H
           have Ny8:=a0_ hy8
           clear hy8
           have H':=a0_ H
           clear H
           have p6 : 0 ≤ (x17_1 : Int):=of_decide_eq_true (by first | (with_reducible assumption) | assumption)
           have q6 : x17_1 < (l1.length : Int):=of_decide_eq_true (by first | (with_reducible assumption) | assumption)
           obtain ⟨ad6,e6,hx6_0,hx6_1,hx6_2,hx6_3⟩:=at_T63 HR1.out x17_1 p6 q6
           (try rw [← Nbq15.out] at hx6_1)
           cases e6
           replace hx6_0:=(HB.out.cell (World.block_lt_of_cell? w _ hx6_0)).trans hx6_0
           replace hx6_1:=(HB.out.cell (World.block_lt_of_cell? w _ hx6_1)).trans hx6_1
           replace hx6_2:=(HB.out.cell (World.block_lt_of_cell? w _ hx6_2)).trans hx6_2
           replace hx6_3:=(HB.out.cell (World.block_lt_of_cell? w _ hx6_3)).trans hx6_3
           replace p6:=eq_true p6
           replace q6:=eq_true q6
           go_wp2_with (first | ((with_reducible refine gate_dst (N:=7) rfl ?_);refine box_event ?hg (N:=7) ?hd (cs:=#[.int .i64 0,.bool false,.int .i64 0,.int .i64 0]) (t:=63) ?hr ?_;(case hd=>rfl);(case hg=>rfl);(case hr=>first | (go_simp;done) | (go_simp;rfl));intro gb7 hg w21 hbox hb;have n0_:=a0_ (Kd.R_below (rr_ HO_5.out) hb);have n1_:=a0_ (blk_below (g:=gb1) (o:=.cells #[.slice A0_0 l0_0.length c0_0] 31 (0,0)) (bb_ BK1.out) hb);have n2_:=a0_ (below_step hb_ hb);have n3_:=a0_ (hbox);have n4_:=a0_ ((by rw [hg];exact (below_size hb_) : w.heap.size ≤ gb7));have n5_:=a0_ ((by rw [hg];exact (below_size hb_) : w.heap.size ≤ gb7));have n6_:=a0_ ((by rw [hg];exact Nat.ne_of_lt (blk_lt (g:=gb1) (o:=.cells #[.slice A0_0 l0_0.length c0_0] 31 (0,0)) (bb_ BK1.out)) : gb1 ≠ gb7));have n7_:=a0_ ((by rw [hg];exact Nat.ne_of_gt (blk_lt (g:=gb1) (o:=.cells #[.slice A0_0 l0_0.length c0_0] 31 (0,0)) (bb_ BK1.out)) : gb7 ≠ gb1));clear HO_5 BK1 HB;have HO_5:=n0_;have BK1:=n1_;have HB:=n2_;have BK7:=n3_;have GW7:=n4_;have GE7:=n5_;have NB1_7:=n6_;have NB7_1:=n7_;clear n0_ n1_ n2_ n3_ n4_ n5_ n6_ n7_;clear hb hbox hg;have hnb22:=NB7_1.out;have hnc22:=NB1_7.out;have hcz23_0 : w21.cell? ⟨gb7,0,none⟩ = some (.int .i64 0):=(blk_cell BK7.out 0).trans rfl;have hcz23_1 : w21.cell? ⟨gb7,1,none⟩ = some (.bool false):=(blk_cell BK7.out 1).trans rfl;have hcz23_2 : w21.cell? ⟨gb7,2,none⟩ = some (.int .i64 0):=(blk_cell BK7.out 2).trans rfl;have hcz23_3 : w21.cell? ⟨gb7,3,none⟩ = some (.int .i64 0):=(blk_cell BK7.out 3).trans rfl;have hfz23_0:=blk_frozen BK7.out 0;have hfz23_1:=blk_frozen BK7.out 1;have hfz23_2:=blk_frozen BK7.out 2;have hfz23_3:=blk_frozen BK7.out 3) | ((with_reducible refine gate_builtin (b:=.append) (xs:=#[.tmp 24,.tmp 30]) rfl ?_);at_builtin;refine Kd.R_append k76 (w0:=w) w.heap.size rfl (.tmp 24) (.tmp 30) 42 76 (.agg #[(.int .i64 0),(.int .i64 0)]) 16 rfl Try.underlying42 info76 rfl (by decide) (by omega) u5 x5_1 (⟨(rd_T63 l1 x17_1).f2,(rd_T63 l1 x17_1).f3⟩ : S76) [.int .i64 ((rd_T63 l1 x17_1).f2),.int .i64 ((rd_T63 l1 x17_1).f3)] (fun _=>True) (fun _=>False) rfl (by first | (go_simp;done) | (go_simp;rfl)) ?aP (fun _ hk=>hk.elim) ?aF ?aO ?aB ?aS ?aL ?_;(case aP=>exact k76_mkM _ _ _ (⟨(rd_T63 l1 x17_1).f2,(rd_T63 l1 x17_1).f3⟩ : S76));(case aB=>exact hb_);(case aF=>exact (fun _ _=>trivial));(case aO=>exact (by (with_reducible repeat (first | apply Kd.R_alloc | apply Kd.R_drewN | apply Kd.R_drew));exact Kd.R_mono (Kd.R_far (p:=⟨gb7,3,none⟩) (Kd.R_far (p:=⟨gb7,2,none⟩) (Kd.R_far (p:=⟨gb7,1,none⟩) (Kd.R_far (p:=⟨gb7,0,none⟩) (Kd.R_types HO_5.out BK7.out (by decide)) (fun _ hk=>hk.2) (.int .i64 ((rd_T63 l1 x17_1).f0))) (fun _ hk=>hk.2) (.bool false)) (fun _ hk=>hk.2) (.int .i64 ((rd_T63 l1 x17_1).f2))) (fun _ hk=>hk.2) (.int .i64 ((rd_T63 l1 x17_1).f3))) (fun _ hk=>trivial)));(case aS=>exact (below_size hb_));(case aL=>have:=LMc20.out;omega);intro v9 w24 ho hb hg hat;rw [← Ny8.out] at ho;have n0_:=a0_ (blk_grown (g:=gb1) (o:=.cells #[.slice A0_0 l0_0.length c0_0] 31 (0,0)) (by (with_reducible repeat (first | refine blk_drewN ?_ _ | refine blk_drew ?_ | refine blk_alloc ?_ _));refine blk_far ?_ NB1_7.out _;(with_reducible repeat (first | refine blk_drewN ?_ _ | refine blk_drew ?_ | refine blk_alloc ?_ _));refine blk_far ?_ NB1_7.out _;(with_reducible repeat (first | refine blk_drewN ?_ _ | refine blk_drew ?_ | refine blk_alloc ?_ _));refine blk_far ?_ NB1_7.out _;(with_reducible repeat (first | refine blk_drewN ?_ _ | refine blk_drew ?_ | refine blk_alloc ?_ _));refine blk_far ?_ NB1_7.out _;(with_reducible repeat (first | refine blk_drewN ?_ _ | refine blk_drew ?_ | refine blk_alloc ?_ _));exact BK1.out) hg (Kd.R_ne HO_5.out BK1.out (by decide)));have n1_:=a0_ (blk_grown (g:=gb7) (o:=.cells #[.int .i64 ((rd_T63 l1 x17_1).f0),.bool false,.int .i64 ((rd_T63 l1 x17_1).f2),.int .i64 ((rd_T63 l1 x17_1).f3)] 63 (0,0)) (by (with_reducible repeat (first | refine blk_drewN ?_ _ | refine blk_drew ?_ | refine blk_alloc ?_ _));refine blk_put (cs:=#[.int .i64 ((rd_T63 l1 x17_1).f0),.bool false,.int .i64 ((rd_T63 l1 x17_1).f2),.int .i64 0]) ?_ 3 _ rfl;(with_reducible repeat (first | refine blk_drewN ?_ _ | refine blk_drew ?_ | refine blk_alloc ?_ _));refine blk_put (cs:=#[.int .i64 ((rd_T63 l1 x17_1).f0),.bool false,.int .i64 0,.int .i64 0]) ?_ 2 _ rfl;(with_reducible repeat (first | refine blk_drewN ?_ _ | refine blk_drew ?_ | refine blk_alloc ?_ _));refine blk_put (cs:=#[.int .i64 ((rd_T63 l1 x17_1).f0),.bool false,.int .i64 0,.int .i64 0]) ?_ 1 _ rfl;(with_reducible repeat (first | refine blk_drewN ?_ _ | refine blk_drew ?_ | refine blk_alloc ?_ _));refine blk_put (cs:=#[.int .i64 0,.bool false,.int .i64 0,.int .i64 0]) ?_ 0 _ rfl;(with_reducible repeat (first | refine blk_drewN ?_ _ | refine blk_drew ?_ | refine blk_alloc ?_ _));exact BK7.out) hg (Kd.R_ne HO_5.out BK7.out (by decide)));have n2_:=a0_ (hb);have n3_:=a0_ (ho);clear BK1 BK7;clear HB HO_5;have BK1:=n0_;have BK7:=n1_;have HB:=n2_;have HO10:=n3_;clear n0_ n1_ n2_ n3_;clear ho hb hg hat))
           go_roundg k1
           case measure=>have:=HK1.out;omega
           case rel=>exact ⟨(y8),(wrap64 (x17_1 + 1)),(by first | rfl | (simp;done) | (simp [*];done)),H',⟨by have:=HK1.out;omega⟩,⟨by (with_reducible repeat (first | apply Kd.R_alloc | apply Kd.R_drewN | apply Kd.R_drew));exact HO10.out⟩,⟨by (with_reducible repeat (first | refine blk_drewN ?_ _ | refine blk_drew ?_ | refine blk_alloc ?_ _));exact BK1.out⟩,⟨hb_⟩⟩
          ·rw [if_neg c20] at H
           exact absurd H (by simp)
        ·rw [if_neg c14] at H
         exact absurd H (by simp)
       ·rw [if_neg c13] at H
        exact absurd H (by simp)
      ·rw [if_neg c12] at H
       have c12b0 : decide (x17_1 < (l1.length : Int)) = false:=decide_eq_false c12
       clear c12
       by_cases c25 : 0 ≤ (x5_1.length : Int)
       ·rw [if_pos c25] at H
        have c25b0:=eq_true c25
        have c25b1 : decide (0 ≤ (x5_1.length : Int)) = true:=decide_eq_true c25
        clear c25
        by_cases c26 : (x5_1.length : Int) ≤ (x5_1.length : Int)
        ·rw [if_pos c26] at H
         have c26b0:=eq_true c26
         have c26b1 : decide ((x5_1.length : Int) ≤ (x5_1.length : Int)) = true:=decide_eq_true c26
         clear c26
         obtain ⟨y11,hy11⟩ : ∃ y_ : List (S76),y_ = (x5_1.take ((x5_1.length : Int) : Int).toNat):=⟨_,rfl⟩
         replace H : (some y11) = some r:=by first | (rw [hy11];with_reducible exact H) | (have H2_:=(Option.bind_some _ _).symm.trans H;rw [hy11];with_reducible exact H2_) | (have H2_:=(Option.bind_some _ _).symm.trans H;with_reducible exact H2_) | with_reducible exact H | (rw [hy11];exact H) | exact H
         have Ny11:=a0_ hy11
         clear hy11
         obtain rfl:=Option.some.inj H
         obtain ⟨Ao27,co27,eo27⟩:=Kd.R_slice HO_5.out
         subst eo27
         have q28 : x5_1.length ≤ co27:=(Kd.R_reads' HO_5.out).2.1
         have hr28:=Kd.R_clip2 HO_5.out (((x5_1.length : Int) : Int).toNat) (by omega)
         rw [← Ny11.out] at hr28
         clear HO_5
         have HO13:=a0_ hr28
         clear hr28
         go_wp2
         go_ret
         exact ⟨_,by first | rfl | (simp [errW_none,errW_some] <;> rfl) | (simp [*,errW_none,errW_some] <;> rfl),by (with_reducible repeat (first | apply Kd.R_alloc | apply Kd.R_drewN | apply Kd.R_drew));exact HO13.out,hb_⟩
        ·rw [if_neg c26] at H
         exact absurd H (by simp)
       ·rw [if_neg c25] at H
        exact absurd H (by simp)
   ·rw [if_neg c6] at H
    exact absurd H (by simp)
  ·rw [if_neg c5] at H
   exact absurd H (by simp)
 ·replace c4:=Bool.eq_false_iff.mpr c4
  subst c4
  have H1 : (some ([] : List (S76))) = some r:=by rw [if_neg (show ¬ (false = true) by decide)] at H;exact H
  clear H
  have H:=H1
  clear H1
  obtain rfl:=Option.some.inj H
  go_enter Try.func24,Try.ntmps24
  go_wp2_with (first | ((with_reducible refine gate_dst (N:=2) rfl ?_);refine box_event ?hg (N:=2) ?hd (cs:=#[.slice A0_0 l0_0.length c0_0]) (t:=31) ?hr ?_;(case hd=>rfl);(case hg=>rfl);(case hr=>first | (go_simp;done) | (go_simp;rfl));intro gb1 hg w29 hbox hb;have n0_:=a0_ (below_step hb_ hb);have n1_:=a0_ (hbox);have n2_:=a0_ ((by rw [hg];exact (below_size hb_) : w.heap.size ≤ gb1));have n3_:=a0_ ((by rw [hg];exact (below_size hb_) : w.heap.size ≤ gb1));clear HB;have HB:=n0_;have BK1:=n1_;have GW1:=n2_;have GE1:=n3_;clear n0_ n1_ n2_ n3_;clear hb hbox hg;have hcz30_0 : w29.cell? ⟨gb1,0,none⟩ = some (.slice A0_0 l0_0.length c0_0):=(blk_cell BK1.out 0).trans rfl;have hfz30_0:=blk_frozen BK1.out 0) | ((with_reducible refine gate_callee (f:=47) rfl ?_);refine goesL_ (some 10) rfl rfl Try.func47 (by kernel_rfl) rfl #[.agg #[.slice A0_0 l0_0.length c0_0],.slice A1 l1.length c1] rfl lm_ ?_;(with_reducible refine (impl_ValidGroup.calls k _ _ l0_0 _ _ l1 false _ ?side1 ?side2 ?side3 ?side4 A3.out).mono ?_);(case side1=>exact cc_ (Kd.C_below HR0_0.out HB.out));(case side2=>exact HC0_0.out);(case side3=>exact cc_ (Kd.C_below HR1.out HB.out));(case side4=>exact HC1.out);rintro e w31 ⟨rfl,hb⟩;refine ⟨_,rfl,?_⟩;have n0_:=a0_ (blk_below (g:=gb1) (o:=.cells #[.slice A0_0 l0_0.length c0_0] 31 (0,0)) (bb_ BK1.out) hb);have n1_:=a0_ (below_step hb_ hb);clear BK1 HB;have BK1:=n0_;have HB:=n1_;clear n0_ n1_;(try clear hb);(try clear hb2);(try clear hk);(try clear hi)))
  go_ret
  exact ⟨_,by first | rfl | (simp [errW_none,errW_some] <;> rfl) | (simp [*,errW_none,errW_some] <;> rfl),by first | exact Kd.R_nil _ _ _ _ _ | exact Kd.N_nil _ _ _ _ _ | exact Kd.V_nil _ _ _ _ _ | exact Kd.Q_nil _ _ _ _ _ | exact Kd.S_nil _ _ _ _ _,hb_⟩
theorem impl_LeavesOf_ev (t : List Cls) (g : List Prt) (ht : t.length ≤ 9223372036854775807) (hl : g.length ≤ 1048576) (hs : smT t = true) : Ev (fun k=>impl_LeavesOf.f k t g) (leavesP t g):=by
 refine Ev.bind (impl_ValidGroup_ev t g ht (by omega) hs) ?_
 unfold leavesP
 cases hv : vG t g with
 | false=>exact Ev.neg (by simp) (Ev.const rfl)
 | true =>
  refine Ev.pos rfl (Ev.pos (by omega) (Ev.pos (by omega) ?_))
  have key : ∀ d i,i + d = g.length → Ev (fun k=>impl_LeavesOf.l0 k (lfs (g.take i)) g (g.length : Int) (i : Int)) (lfs g):=by
   intro d
   induction d with
   | zero =>
    intro i hi
    obtain rfl : i = g.length:=by omega
    refine Ev.succ ?_
    simp only [impl_LeavesOf.l0]
    exact Ev.neg (by omega) (Ev.pos (by omega) (Ev.pos (by omega) (Ev.const (by simp))))
   | succ d ih =>
    intro i hi
    have hlt : i < g.length:=by omega
    have hrd : rd_T63 g (i : Int) = g[i]:=by simp [rd_T63,hlt]
    have hn:=ih (i + 1) (by omega)
    rw [lfs_step g i hlt] at hn
    have l1:=lfs_len (g.take i)
    rw [List.length_take] at l1
    refine Ev.succ ?_
    simp only [impl_LeavesOf.l0,hrd]
    rw [wrap_succ (i:=(i : Int)) (n:=g.length) (by omega) (by omega) (by omega)]
    refine Ev.pos (by omega) (Ev.pos (by omega) (Ev.pos (by omega) ?_))
    cases h1 : g[i].f1 with
    | true =>
     rw [h1,if_pos rfl,List.append_nil] at hn
     exact Ev.pos rfl hn
    | false =>
     rw [h1,if_neg (by simp)] at hn
     exact Ev.neg (by simp) (Ev.pos (by omega) hn)
  exact key g.length 0 (by omega)
end Go.Proofs.Ytdepjpjgecdcjaa.P
namespace Go.Proofs.Ytdepjpjgecdcjaa.P
open Go.RowKit Go.Proofs.YtdepjpjgecdcjaaW.PrintWords Go.Proofs.YtdepjpjgecdcjaaW.PrintLast Go.Proofs.YtdepjpjgecdcjaaW.PrintMore
attribute [local go_sem] max2_int min2_int max_two min_two max_three min_three max_four min_four
set_option linter.unusedVariables false
set_option linter.unusedSimpArgs false
def laws_eqLeaf.f (a0_0 : Int) (a0_1 : Int) (a1_0 : Int) (a1_1 : Int) : Option (Bool):=if a0_0 = a1_0 then (if a0_1 = a1_1 then (some true) else (some false)) else (some false)
set_option maxHeartbeats 8000000 in
set_option maxRecDepth 100000 in
theorem laws_eqLeaf.calls (a0_0 : Int) (a0_1 : Int) (a1_0 : Int) (a1_1 : Int) (r : Bool) (w : World) (h : laws_eqLeaf.f a0_0 a0_1 a1_0 a1_1 = some r) :
  Calls Try.prog 58 #[.agg #[.int .i64 a0_0,.int .i64 a0_1],.agg #[.int .i64 a1_0,.int .i64 a1_1]] w fun e w'=>e = .returned (.bool r) ∧ Below w.heap.size w w':=by
 have hu76:=Try.underlying76
 have HB:=a0_ (Below.refl w.heap.size w)
 have H : (if a0_0 = a1_0 then (if a0_1 = a1_1 then (some true) else (some false)) else (some false)) = some r:=h
 clear h
 by_cases c3 : a0_0 = a1_0
 ·rw [if_pos c3] at H
  have c3b0 : (a0_0 == a1_0) = true:=beq_iff_eq.mpr c3
  have c3b1 : (a0_0 != a1_0) = false:=bne_eq_false_iff_eq.mpr c3
  clear c3
  by_cases c4 : a0_1 = a1_1
  ·rw [if_pos c4] at H
   have c4b0 : (a0_1 == a1_1) = true:=beq_iff_eq.mpr c4
   have c4b1 : (a0_1 != a1_1) = false:=bne_eq_false_iff_eq.mpr c4
   clear c4
   obtain rfl:=Option.some.inj H
   go_enter Try.func58,Try.ntmps58
   go_wp2_with (first | ((with_reducible refine gate_dst (N:=2) rfl ?_);refine box_event ?hg (N:=2) ?hd (cs:=#[.int .i64 a0_0,.int .i64 a0_1]) (t:=76) ?hr ?_;(case hd=>rfl);(case hg=>rfl);(case hr=>first | (go_simp;done) | (go_simp;rfl));intro gb1 hg w5 hbox hb;have n0_:=a0_ (below_step hb_ hb);have n1_:=a0_ (hbox);have n2_:=a0_ ((by rw [hg];exact (below_size hb_) : w.heap.size ≤ gb1));have n3_:=a0_ ((by rw [hg];exact (below_size hb_) : w.heap.size ≤ gb1));clear HB;have HB:=n0_;have BK1:=n1_;have GW1:=n2_;have GE1:=n3_;clear n0_ n1_ n2_ n3_;clear hb hbox hg) | ((with_reducible refine gate_dst (N:=3) rfl ?_);refine box_event ?hg (N:=3) ?hd (cs:=#[.int .i64 a1_0,.int .i64 a1_1]) (t:=76) ?hr ?_;(case hd=>rfl);(case hg=>rfl);(case hr=>first | (go_simp;done) | (go_simp;rfl));intro gb2 hg w6 hbox hb;have n0_:=a0_ (blk_below (g:=gb1) (o:=.cells #[.int .i64 a0_0,.int .i64 a0_1] 76 (0,0)) (bb_ BK1.out) hb);have n1_:=a0_ (below_step hb_ hb);have n2_:=a0_ (hbox);have n3_:=a0_ ((by rw [hg];exact (below_size hb_) : w.heap.size ≤ gb2));have n4_:=a0_ ((by rw [hg];exact (below_size hb_) : w.heap.size ≤ gb2));have n5_:=a0_ ((by rw [hg];exact Nat.ne_of_lt (blk_lt (g:=gb1) (o:=.cells #[.int .i64 a0_0,.int .i64 a0_1] 76 (0,0)) (bb_ BK1.out)) : gb1 ≠ gb2));have n6_:=a0_ ((by rw [hg];exact Nat.ne_of_gt (blk_lt (g:=gb1) (o:=.cells #[.int .i64 a0_0,.int .i64 a0_1] 76 (0,0)) (bb_ BK1.out)) : gb2 ≠ gb1));clear BK1 HB;have BK1:=n0_;have HB:=n1_;have BK2:=n2_;have GW2:=n3_;have GE2:=n4_;have NB1_2:=n5_;have NB2_1:=n6_;clear n0_ n1_ n2_ n3_ n4_ n5_ n6_;clear hb hbox hg;have hnb7:=NB1_2.out;have hnc7:=NB2_1.out;have hcz8_0 : w6.cell? ⟨gb1,0,none⟩ = some (.int .i64 a0_0):=(blk_cell BK1.out 0).trans rfl;have hcz8_1 : w6.cell? ⟨gb1,1,none⟩ = some (.int .i64 a0_1):=(blk_cell BK1.out 1).trans rfl;have hfz8_0:=blk_frozen BK1.out 0;have hfz8_1:=blk_frozen BK1.out 1;have hcz9_0 : w6.cell? ⟨gb2,0,none⟩ = some (.int .i64 a1_0):=(blk_cell BK2.out 0).trans rfl;have hcz9_1 : w6.cell? ⟨gb2,1,none⟩ = some (.int .i64 a1_1):=(blk_cell BK2.out 1).trans rfl;have hfz9_0:=blk_frozen BK2.out 0;have hfz9_1:=blk_frozen BK2.out 1))
   go_ret
   exact ⟨by first | rfl | (simp [errW_none,errW_some] <;> rfl) | (simp [*,errW_none,errW_some] <;> rfl),hb_⟩
  ·rw [if_neg c4] at H
   have c4b0 : (a0_1 == a1_1) = false:=beq_eq_false_iff_ne.mpr c4
   have c4b1 : (a0_1 != a1_1) = true:=bne_iff_ne.mpr c4
   obtain rfl:=Option.some.inj H
   go_enter Try.func58,Try.ntmps58
   go_wp2_with (first | ((with_reducible refine gate_dst (N:=2) rfl ?_);refine box_event ?hg (N:=2) ?hd (cs:=#[.int .i64 a0_0,.int .i64 a0_1]) (t:=76) ?hr ?_;(case hd=>rfl);(case hg=>rfl);(case hr=>first | (go_simp;done) | (go_simp;rfl));intro gb1 hg w10 hbox hb;have n0_:=a0_ (below_step hb_ hb);have n1_:=a0_ (hbox);have n2_:=a0_ ((by rw [hg];exact (below_size hb_) : w.heap.size ≤ gb1));have n3_:=a0_ ((by rw [hg];exact (below_size hb_) : w.heap.size ≤ gb1));clear HB;have HB:=n0_;have BK1:=n1_;have GW1:=n2_;have GE1:=n3_;clear n0_ n1_ n2_ n3_;clear hb hbox hg) | ((with_reducible refine gate_dst (N:=3) rfl ?_);refine box_event ?hg (N:=3) ?hd (cs:=#[.int .i64 a1_0,.int .i64 a1_1]) (t:=76) ?hr ?_;(case hd=>rfl);(case hg=>rfl);(case hr=>first | (go_simp;done) | (go_simp;rfl));intro gb2 hg w11 hbox hb;have n0_:=a0_ (blk_below (g:=gb1) (o:=.cells #[.int .i64 a0_0,.int .i64 a0_1] 76 (0,0)) (bb_ BK1.out) hb);have n1_:=a0_ (below_step hb_ hb);have n2_:=a0_ (hbox);have n3_:=a0_ ((by rw [hg];exact (below_size hb_) : w.heap.size ≤ gb2));have n4_:=a0_ ((by rw [hg];exact (below_size hb_) : w.heap.size ≤ gb2));have n5_:=a0_ ((by rw [hg];exact Nat.ne_of_lt (blk_lt (g:=gb1) (o:=.cells #[.int .i64 a0_0,.int .i64 a0_1] 76 (0,0)) (bb_ BK1.out)) : gb1 ≠ gb2));have n6_:=a0_ ((by rw [hg];exact Nat.ne_of_gt (blk_lt (g:=gb1) (o:=.cells #[.int .i64 a0_0,.int .i64 a0_1] 76 (0,0)) (bb_ BK1.out)) : gb2 ≠ gb1));clear BK1 HB;have BK1:=n0_;have HB:=n1_;have BK2:=n2_;have GW2:=n3_;have GE2:=n4_;have NB1_2:=n5_;have NB2_1:=n6_;clear n0_ n1_ n2_ n3_ n4_ n5_ n6_;clear hb hbox hg;have hnb12:=NB1_2.out;have hnc12:=NB2_1.out;have hcz13_0 : w11.cell? ⟨gb1,0,none⟩ = some (.int .i64 a0_0):=(blk_cell BK1.out 0).trans rfl;have hcz13_1 : w11.cell? ⟨gb1,1,none⟩ = some (.int .i64 a0_1):=(blk_cell BK1.out 1).trans rfl;have hfz13_0:=blk_frozen BK1.out 0;have hfz13_1:=blk_frozen BK1.out 1;have hcz14_0 : w11.cell? ⟨gb2,0,none⟩ = some (.int .i64 a1_0):=(blk_cell BK2.out 0).trans rfl;have hcz14_1 : w11.cell? ⟨gb2,1,none⟩ = some (.int .i64 a1_1):=(blk_cell BK2.out 1).trans rfl;have hfz14_0:=blk_frozen BK2.out 0;have hfz14_1:=blk_frozen BK2.out 1))
   go_ret
   exact ⟨by first | rfl | (simp [errW_none,errW_some] <;> rfl) | (simp [*,errW_none,errW_some] <;> rfl),hb_⟩
 ·rw [if_neg c3] at H
  have c3b0 : (a0_0 == a1_0) = false:=beq_eq_false_iff_ne.mpr c3
  have c3b1 : (a0_0 != a1_0) = true:=bne_iff_ne.mpr c3
  obtain rfl:=Option.some.inj H
  go_enter Try.func58,Try.ntmps58
  go_wp2_with (first | ((with_reducible refine gate_dst (N:=2) rfl ?_);refine box_event ?hg (N:=2) ?hd (cs:=#[.int .i64 a0_0,.int .i64 a0_1]) (t:=76) ?hr ?_;(case hd=>rfl);(case hg=>rfl);(case hr=>first | (go_simp;done) | (go_simp;rfl));intro gb1 hg w15 hbox hb;have n0_:=a0_ (below_step hb_ hb);have n1_:=a0_ (hbox);have n2_:=a0_ ((by rw [hg];exact (below_size hb_) : w.heap.size ≤ gb1));have n3_:=a0_ ((by rw [hg];exact (below_size hb_) : w.heap.size ≤ gb1));clear HB;have HB:=n0_;have BK1:=n1_;have GW1:=n2_;have GE1:=n3_;clear n0_ n1_ n2_ n3_;clear hb hbox hg) | ((with_reducible refine gate_dst (N:=3) rfl ?_);refine box_event ?hg (N:=3) ?hd (cs:=#[.int .i64 a1_0,.int .i64 a1_1]) (t:=76) ?hr ?_;(case hd=>rfl);(case hg=>rfl);(case hr=>first | (go_simp;done) | (go_simp;rfl));intro gb2 hg w16 hbox hb;have n0_:=a0_ (blk_below (g:=gb1) (o:=.cells #[.int .i64 a0_0,.int .i64 a0_1] 76 (0,0)) (bb_ BK1.out) hb);have n1_:=a0_ (below_step hb_ hb);have n2_:=a0_ (hbox);have n3_:=a0_ ((by rw [hg];exact (below_size hb_) : w.heap.size ≤ gb2));have n4_:=a0_ ((by rw [hg];exact (below_size hb_) : w.heap.size ≤ gb2));have n5_:=a0_ ((by rw [hg];exact Nat.ne_of_lt (blk_lt (g:=gb1) (o:=.cells #[.int .i64 a0_0,.int .i64 a0_1] 76 (0,0)) (bb_ BK1.out)) : gb1 ≠ gb2));have n6_:=a0_ ((by rw [hg];exact Nat.ne_of_gt (blk_lt (g:=gb1) (o:=.cells #[.int .i64 a0_0,.int .i64 a0_1] 76 (0,0)) (bb_ BK1.out)) : gb2 ≠ gb1));clear BK1 HB;have BK1:=n0_;have HB:=n1_;have BK2:=n2_;have GW2:=n3_;have GE2:=n4_;have NB1_2:=n5_;have NB2_1:=n6_;clear n0_ n1_ n2_ n3_ n4_ n5_ n6_;clear hb hbox hg;have hnb17:=NB1_2.out;have hnc17:=NB2_1.out;have hcz18_0 : w16.cell? ⟨gb1,0,none⟩ = some (.int .i64 a0_0):=(blk_cell BK1.out 0).trans rfl;have hcz18_1 : w16.cell? ⟨gb1,1,none⟩ = some (.int .i64 a0_1):=(blk_cell BK1.out 1).trans rfl;have hfz18_0:=blk_frozen BK1.out 0;have hfz18_1:=blk_frozen BK1.out 1;have hcz19_0 : w16.cell? ⟨gb2,0,none⟩ = some (.int .i64 a1_0):=(blk_cell BK2.out 0).trans rfl;have hcz19_1 : w16.cell? ⟨gb2,1,none⟩ = some (.int .i64 a1_1):=(blk_cell BK2.out 1).trans rfl;have hfz19_0:=blk_frozen BK2.out 0;have hfz19_1:=blk_frozen BK2.out 1))
  go_ret
  exact ⟨by first | rfl | (simp [errW_none,errW_some] <;> rfl) | (simp [*,errW_none,errW_some] <;> rfl),hb_⟩
end Go.Proofs.Ytdepjpjgecdcjaa.P
namespace Go.Proofs.Ytdepjpjgecdcjaa.P
open Go.RowKit Go.Proofs.YtdepjpjgecdcjaaW.PrintWords Go.Proofs.YtdepjpjgecdcjaaW.PrintLast Go.Proofs.YtdepjpjgecdcjaaW.PrintMore
attribute [local go_sem] max2_int min2_int max_two min_two max_three min_three max_four min_four
set_option linter.unusedVariables false
set_option linter.unusedSimpArgs false
def laws_eqLeafS.l0 : Nat → List (S76) → List (S76) → Int → Option (Bool)
 | 0,_,_,_=>none
 | k + 1,x0,x1,x5=>if x5 < (x0.length : Int) then (if 0 ≤ x5 then (if x5 < (x1.length : Int) then ((laws_eqLeaf.f ((rd_T76 x0 x5).f0) ((rd_T76 x0 x5).f1) ((rd_T76 x1 x5).f0) ((rd_T76 x1 x5).f1)).bind fun t3=>(if t3 = true then (laws_eqLeafS.l0 k x0 x1 (wrap64 (x5 + 1))) else (some false))) else (none)) else (none)) else (some true)
def laws_eqLeafS.f (k : Nat) (l0 : List (S76)) (l1 : List (S76)) : Option (Bool):=if (l0.length : Int) = (l1.length : Int) then (laws_eqLeafS.l0 k l0 l1 0) else (some false)
theorem laws_eqLeafS.mono_l : ∀ k,(∀ y0 y1 y2,LeO (laws_eqLeafS.l0 k y0 y1 y2) (laws_eqLeafS.l0 (k + 1) y0 y1 y2))
 | 0=>fun _ _ _ r h=>by simp [laws_eqLeafS.l0] at h
 | k + 1=>by
  have ih0:=laws_eqLeafS.mono_l k
  ·intro y0 y1 y2
   unfold laws_eqLeafS.l0
   repeat' first
   | (with_reducible exact ih0 _ _ _)
   | (with_reducible exact LeO.refl _)
   | (with_reducible exact LeO.none _)
   | (with_reducible refine LeO.ite ?_ ?_)
   | (with_reducible refine LeO.bind ?_ (fun _=>?_))
   | exact ih0 _ _ _
   | exact LeO.none _
   | refine LeO.ite ?_ ?_
   | refine LeO.bind ?_ (fun _=>?_)
theorem laws_eqLeafS.mono : ∀ a0 a1 k,LeO (laws_eqLeafS.f k a0 a1) (laws_eqLeafS.f (k + 1) a0 a1):=by
 intro a0 a1 k
 have ih0:=laws_eqLeafS.mono_l k
 unfold laws_eqLeafS.f
 repeat' first
   | (with_reducible exact ih0 _ _ _)
   | (with_reducible exact LeO.refl _)
   | (with_reducible exact LeO.none _)
   | (with_reducible refine LeO.ite ?_ ?_)
   | (with_reducible refine LeO.bind ?_ (fun _=>?_))
   | exact ih0 _ _ _
   | exact LeO.none _
   | refine LeO.ite ?_ ?_
   | refine LeO.bind ?_ (fun _=>?_)
def laws_eqLeafS.T6 : Bool × List (List Nat × List Nat):=(true,[([],[]),([],[]),([0,1],[0,1]),([2],[2]),([],[]),([],[]),([4,5],[4,5]),([6],[6]),([3,7],[3,7]),([8],[8])])
def laws_eqLeafS.B6 : List Nat:=[0,0,3,7,0,0,48,112,255,511]
theorem laws_eqLeafS.tab6 : rtab .any (opsOf Try.f25 6) = laws_eqLeafS.T6:=by kernel_rfl
theorem laws_eqLeafS.bits6 : waitsOk laws_eqLeafS.T6.2 laws_eqLeafS.B6 = true:=by kernel_rfl
set_option maxHeartbeats 8000000 in
set_option maxRecDepth 100000 in
theorem laws_eqLeafS.calls (k : Nat) (A0 : Option Addr) (c0 : Nat) (l0 : List (S76)) (A1 : Option Addr) (c1 : Nat) (l1 : List (S76)) (r : Bool) (w : World) (hr0 : Kd.C k76 w A0 l0.length l0) (hc0 : l0.length ≤ c0) (hr1 : Kd.C k76 w A1 l1.length l1) (hc1 : l1.length ≤ c1) (h : laws_eqLeafS.f k l0 l1 = some r) :
  Calls Try.prog 25 #[.slice A0 l0.length c0,.slice A1 l1.length c1] w fun e w'=>e = .returned (.bool r) ∧ Below w.heap.size w w':=by
 have hu76:=Try.underlying76
 have HR0:=a0_ hr0
 have HC0:=a0_ hc0
 clear hr0 hc0
 have HR1:=a0_ hr1
 have HC1:=a0_ hc1
 clear hr1 hc1
 have HB:=a0_ (Below.refl w.heap.size w)
 have H : (if (l0.length : Int) = (l1.length : Int) then (laws_eqLeafS.l0 k l0 l1 0) else (some false)) = some r:=h
 clear h
 by_cases c3 : (l0.length : Int) = (l1.length : Int)
 ·rw [if_pos c3] at H
  have c3b0 : ((l0.length : Int) == (l1.length : Int)) = true:=beq_iff_eq.mpr c3
  have c3b1 : ((l0.length : Int) != (l1.length : Int)) = false:=bne_eq_false_iff_eq.mpr c3
  have c3b2 : (l0.length == l1.length) = true:=by first | simpa using c3 | (simp at c3 ⊢;omega)
  clear c3
  have H':=a0_ H
  clear H
  go_enter Try.func25,Try.ntmps25
  go_wp2
  go_loopg [5] k (fun kq v5 w'=>∃ (x5_1 : Int),v5 = .int .i64 x5_1 ∧ Aside0 (laws_eqLeafS.l0 kq l0 l1 x5_1 = some r) ∧ Aside0 (kq ≤ k) ∧ Aside0 (Below w.heap.size w w'))
  case atStart=>exact ⟨(0),(by first | rfl | (simp;done) | (simp [*];done)),H',⟨Nat.le_refl _⟩,⟨hb_⟩⟩
  case round =>
   clear H'
   try clear c1
   try clear c2
   try clear p2
   try clear c3
   try clear c3b0
   try clear c3b1
   try clear c3b2
   obtain ⟨x5_1,rfl,HA,HK1,HB⟩:=hrel
   cases gk with
   | zero=>exact absurd HA.out (by simp [laws_eqLeafS.l0])
   | succ k1 =>
    have H:=HA.out
    clear HA
    simp only [laws_eqLeafS.l0] at H
    by_cases c4 : x5_1 < (l0.length : Int)
    ·rw [if_pos c4] at H
     have c4b0 : decide (x5_1 < (l0.length : Int)) = true:=decide_eq_true c4
     clear c4
     by_cases c5 : 0 ≤ x5_1
     ·rw [if_pos c5] at H
      have c5b0 : decide (0 ≤ x5_1) = true:=decide_eq_true c5
      clear c5
      by_cases c6 : x5_1 < (l1.length : Int)
      ·rw [if_pos c6] at H
       have c6b0 : decide (x5_1 < (l1.length : Int)) = true:=decide_eq_true c6
       clear c6
       replace H:=Option.bind_eq_some_iff.mp H
       obtain ⟨t3,A70,H⟩:=H
       replace H : (if t3 = true then (laws_eqLeafS.l0 k1 l0 l1 (wrap64 (x5_1 + 1))) else (some false)) = some r:=H
       have A7:=a0_ A70
       clear A70
       by_cases c8 : t3 = true
       ·subst c8
        have H1 : (laws_eqLeafS.l0 k1 l0 l1 (wrap64 (x5_1 + 1))) = some r:=by rw [if_pos rfl] at H;exact H
        clear H
        have H:=H1
        clear H1
        have H':=a0_ H
        clear H
        try go_wp2
        have n0_:=a0_ (below_drew1 HB.out)
        clear HB
        have HB:=n0_
        clear n0_
        have p1 : 0 ≤ (x5_1 : Int):=of_decide_eq_true (by first | (with_reducible assumption) | assumption)
        have q1 : x5_1 < (l0.length : Int):=of_decide_eq_true (by first | (with_reducible assumption) | assumption)
        obtain ⟨ad1,e1,hx1_0,hx1_1⟩:=at_T76 HR0.out x5_1 p1 q1
        have hw1_1:=hx1_1
        have hw1_0:=hx1_0
        cases e1
        replace hx1_0:=(HB.out.cell (World.block_lt_of_cell? w _ hx1_0)).trans hx1_0
        replace hx1_1:=(HB.out.cell (World.block_lt_of_cell? w _ hx1_1)).trans hx1_1
        replace p1:=eq_true p1
        replace q1:=eq_true q1
        have p2 : 0 ≤ (x5_1 : Int):=of_decide_eq_true (by first | (with_reducible assumption) | assumption)
        have q2 : x5_1 < (l1.length : Int):=of_decide_eq_true (by first | (with_reducible assumption) | assumption)
        obtain ⟨ad2,e2,hx2_0,hx2_1⟩:=at_T76 HR1.out x5_1 p2 q2
        have hw2_1:=hx2_1
        have hw2_0:=hx2_0
        cases e2
        replace hx2_0:=(HB.out.cell (World.block_lt_of_cell? w _ hx2_0)).trans hx2_0
        replace hx2_1:=(HB.out.cell (World.block_lt_of_cell? w _ hx2_1)).trans hx2_1
        replace p2:=eq_true p2
        replace q2:=eq_true q2
        refine start_ (n:=10) (S:=fun w'=>w'.cell? (ad1.add ((x5_1).toNat * 2)) = some (.int .i64 ((rd_T76 l0 x5_1).f0)) ∧ w'.cell? ⟨(ad1.add ((x5_1).toNat * 2)).block,(ad1.add ((x5_1).toNat * 2)).off + 1,none⟩ = some (.int .i64 ((rd_T76 l0 x5_1).f1)) ∧ w'.cell? (ad2.add ((x5_1).toNat * 2)) = some (.int .i64 ((rd_T76 l1 x5_1).f0)) ∧ w'.cell? ⟨(ad2.add ((x5_1).toNat * 2)).block,(ad2.add ((x5_1).toNat * 2)).off + 1,none⟩ = some (.int .i64 ((rd_T76 l1 x5_1).f1))) (ds:=[]) #[false,false,false,false,false,false,false,false,false,false] (by kernel_rfl) rfl rfl ⟨((HB.out.cell (World.block_lt_of_cell? w _ hw1_0)).trans hw1_0),((HB.out.cell (World.block_lt_of_cell? w _ hw1_1)).trans hw1_1),((HB.out.cell (World.block_lt_of_cell? w _ hw2_0)).trans hw2_0),((HB.out.cell (World.block_lt_of_cell? w _ hw2_1)).trans hw2_1)⟩ (fun hHeld=>?_);refine with_tabW laws_eqLeafS.tab6 laws_eqLeafS.bits6 (fun HT_ HW_=>?_)
        generalize wr.drew = w9 at HB hx1_0 hx1_1 hx2_0 hx2_1 hHeld ⊢
        refine pure_ (i:=0) (N:=some 17) (v:=?_) (a':=?_) #[true,false,false,false,false,false,false,false,false,false] rfl rfl (any_of HT_.out (by kernel_rfl)) (fun _ _ _ h=>h) (Or.inl ⟨by rfl,?_⟩) ?_ ?_
        rotate_left
        ·intro w'
         go_simp
         with_reducible rfl
        rotate_left
        ·simp only [Act.put,List.setIfInBounds_toArray,List.set_cons_zero,List.set_cons_succ,i64_w,i32_w]
         rfl
        refine pure_ (i:=1) (N:=some 18) (v:=?_) (a':=?_) #[true,true,false,false,false,false,false,false,false,false] rfl rfl (any_of HT_.out (by kernel_rfl)) (fun _ _ _ h=>h) (Or.inl ⟨by rfl,?_⟩) ?_ ?_
        rotate_left
        ·intro w'
         go_simp
         with_reducible rfl
        rotate_left
        ·simp only [Act.put,List.setIfInBounds_toArray,List.set_cons_zero,List.set_cons_succ,i64_w,i32_w]
         rfl
        refine pure_ (i:=2) (N:=some 19) (v:=?_) (a':=?_) #[true,true,true,false,false,false,false,false,false,false] rfl rfl (any_of HT_.out (by kernel_rfl)) (fun _ _ _ h=>h) (Or.inl ⟨by rfl,?_⟩) ?_ ?_
        rotate_left
        ·intro w'
         go_simp
         with_reducible rfl
        rotate_left
        ·simp only [Act.put,List.setIfInBounds_toArray,List.set_cons_zero,List.set_cons_succ,i64_w,i32_w]
         rfl
        refine pure_ (i:=4) (N:=some 21) (v:=?_) (a':=?_) #[true,true,true,false,true,false,false,false,false,false] rfl rfl (any_of HT_.out (by kernel_rfl)) (fun _ _ _ h=>h) (Or.inl ⟨by rfl,?_⟩) ?_ ?_
        rotate_left
        ·intro w'
         go_simp
         with_reducible rfl
        rotate_left
        ·simp only [Act.put,List.setIfInBounds_toArray,List.set_cons_zero,List.set_cons_succ,i64_w,i32_w]
         rfl
        refine pure_ (i:=5) (N:=some 22) (v:=?_) (a':=?_) #[true,true,true,false,true,true,false,false,false,false] rfl rfl (any_of HT_.out (by kernel_rfl)) (fun _ _ _ h=>h) (Or.inl ⟨by rfl,?_⟩) ?_ ?_
        rotate_left
        ·intro w'
         go_simp
         with_reducible rfl
        rotate_left
        ·simp only [Act.put,List.setIfInBounds_toArray,List.set_cons_zero,List.set_cons_succ,i64_w,i32_w]
         rfl
        refine pure_ (i:=6) (N:=some 23) (v:=?_) (a':=?_) #[true,true,true,false,true,true,true,false,false,false] rfl rfl (any_of HT_.out (by kernel_rfl)) (fun _ _ _ h=>h) (Or.inl ⟨by rfl,?_⟩) ?_ ?_
        rotate_left
        ·intro w'
         go_simp
         with_reducible rfl
        rotate_left
        ·simp only [Act.put,List.setIfInBounds_toArray,List.set_cons_zero,List.set_cons_succ,i64_w,i32_w]
         rfl
        refine take_ (i:=3) (N:=some 20) (v:=?_) (a':=?_) #[true,true,true,true,true,true,true,false,false,false] rfl rfl (take_ofW HT_.out HW_.out (by kernel_rfl)) (fun _ _ _ h=>h) (Or.inl ⟨by rfl,?_⟩) hHeld ?_ ?_
        rotate_left
        ·rintro w' ⟨s0,s1,s2,s3⟩
         go_simp
         with_reducible rfl
        rotate_left
        ·simp only [Act.put,List.setIfInBounds_toArray,List.set_cons_zero,List.set_cons_succ,i64_w,i32_w]
         rfl
        refine take_ (i:=7) (N:=some 24) (v:=?_) (a':=?_) #[true,true,true,true,true,true,true,true,false,false] rfl rfl (take_ofW HT_.out HW_.out (by kernel_rfl)) (fun _ _ _ h=>h) (Or.inl ⟨by rfl,?_⟩) hHeld ?_ ?_
        rotate_left
        ·rintro w' ⟨s0,s1,s2,s3⟩
         go_simp
         with_reducible rfl
        rotate_left
        ·simp only [Act.put,List.setIfInBounds_toArray,List.set_cons_zero,List.set_cons_succ,i64_w,i32_w]
         rfl
        refine one_ (i:=8) (N:=some 25) #[true,true,true,true,true,true,true,true,true,false] rfl rfl (one_of HT_.out (by kernel_rfl)) (by decide) (fun K hK=>?_)
        refine goes_ Try.func58 (by kernel_rfl) rfl #[.agg #[.int .i64 ((rd_T76 l0 x5_1).f0),.int .i64 ((rd_T76 l0 x5_1).f1)],.agg #[.int .i64 ((rd_T76 l1 x5_1).f0),.int .i64 ((rd_T76 l1 x5_1).f1)]] (by rfl) rfl rfl lm_ ?_
        with_reducible refine (laws_eqLeaf.calls ((rd_T76 l0 x5_1).f0) ((rd_T76 l0 x5_1).f1) ((rd_T76 l1 x5_1).f0) ((rd_T76 l1 x5_1).f1) true _ A7.out).mono ?_
        rintro e w10 ⟨rfl,hb⟩
        refine ⟨_,rfl,?_⟩
        have n0_:=a0_ (below_step hb_ hb)
        clear HB
        have HB:=n0_
        clear n0_
        (try clear hb)
        (try clear hb2)
        (try clear hk)
        (try clear hi)
        refine hK.out _ _ ⟨((HB.out.cell (World.block_lt_of_cell? w _ hw1_0)).trans hw1_0),((HB.out.cell (World.block_lt_of_cell? w _ hw1_1)).trans hw1_1),((HB.out.cell (World.block_lt_of_cell? w _ hw2_0)).trans hw2_0),((HB.out.cell (World.block_lt_of_cell? w _ hw2_1)).trans hw2_1)⟩ (fun hHeld=>?_)
        clear hK K
        refine norm_ (a':=?_) ?_ ?_
        rotate_left
        ·show Act.put _ (some 25) _ = _
         simp only [Act.put,List.setIfInBounds_toArray,List.set_cons_zero,List.set_cons_succ,i64_w,i32_w]
         rfl
        refine pure_ (i:=9) (N:=some 26) (v:=?_) (a':=?_) #[true,true,true,true,true,true,true,true,true,true] rfl rfl (any_of HT_.out (by kernel_rfl)) (fun _ _ _ h=>h) (Or.inl ⟨by rfl,?_⟩) ?_ ?_
        rotate_left
        ·intro w'
         go_simp
         with_reducible rfl
        rotate_left
        ·simp only [Act.put,List.setIfInBounds_toArray,List.set_cons_zero,List.set_cons_succ,i64_w,i32_w]
         rfl
        refine done_ (done_of HT_.out (by kernel_rfl)) ?_
        try go_wp2
        go_roundg k1
        case measure=>have:=HK1.out;omega
        case rel=>exact ⟨(wrap64 (x5_1 + 1)),(by first | rfl | (simp;done) | (simp [*];done)),H',⟨by have:=HK1.out;omega⟩,⟨hb_⟩⟩
       ·replace c8:=Bool.eq_false_iff.mpr c8
        subst c8
        have H1 : (some false) = some r:=by rw [if_neg (show ¬ (false = true) by decide)] at H;exact H
        clear H
        have H:=H1
        clear H1
        obtain rfl:=Option.some.inj H
        try go_wp2
        have n0_:=a0_ (below_drew1 HB.out)
        clear HB
        have HB:=n0_
        clear n0_
        have p1 : 0 ≤ (x5_1 : Int):=of_decide_eq_true (by first | (with_reducible assumption) | assumption)
        have q1 : x5_1 < (l0.length : Int):=of_decide_eq_true (by first | (with_reducible assumption) | assumption)
        obtain ⟨ad1,e1,hx1_0,hx1_1⟩:=at_T76 HR0.out x5_1 p1 q1
        have hw1_1:=hx1_1
        have hw1_0:=hx1_0
        cases e1
        replace hx1_0:=(HB.out.cell (World.block_lt_of_cell? w _ hx1_0)).trans hx1_0
        replace hx1_1:=(HB.out.cell (World.block_lt_of_cell? w _ hx1_1)).trans hx1_1
        replace p1:=eq_true p1
        replace q1:=eq_true q1
        have p2 : 0 ≤ (x5_1 : Int):=of_decide_eq_true (by first | (with_reducible assumption) | assumption)
        have q2 : x5_1 < (l1.length : Int):=of_decide_eq_true (by first | (with_reducible assumption) | assumption)
        obtain ⟨ad2,e2,hx2_0,hx2_1⟩:=at_T76 HR1.out x5_1 p2 q2
        have hw2_1:=hx2_1
        have hw2_0:=hx2_0
        cases e2
        replace hx2_0:=(HB.out.cell (World.block_lt_of_cell? w _ hx2_0)).trans hx2_0
        replace hx2_1:=(HB.out.cell (World.block_lt_of_cell? w _ hx2_1)).trans hx2_1
        replace p2:=eq_true p2
        replace q2:=eq_true q2
        refine start_ (n:=10) (S:=fun w'=>w'.cell? (ad1.add ((x5_1).toNat * 2)) = some (.int .i64 ((rd_T76 l0 x5_1).f0)) ∧ w'.cell? ⟨(ad1.add ((x5_1).toNat * 2)).block,(ad1.add ((x5_1).toNat * 2)).off + 1,none⟩ = some (.int .i64 ((rd_T76 l0 x5_1).f1)) ∧ w'.cell? (ad2.add ((x5_1).toNat * 2)) = some (.int .i64 ((rd_T76 l1 x5_1).f0)) ∧ w'.cell? ⟨(ad2.add ((x5_1).toNat * 2)).block,(ad2.add ((x5_1).toNat * 2)).off + 1,none⟩ = some (.int .i64 ((rd_T76 l1 x5_1).f1))) (ds:=[]) #[false,false,false,false,false,false,false,false,false,false] (by kernel_rfl) rfl rfl ⟨((HB.out.cell (World.block_lt_of_cell? w _ hw1_0)).trans hw1_0),((HB.out.cell (World.block_lt_of_cell? w _ hw1_1)).trans hw1_1),((HB.out.cell (World.block_lt_of_cell? w _ hw2_0)).trans hw2_0),((HB.out.cell (World.block_lt_of_cell? w _ hw2_1)).trans hw2_1)⟩ (fun hHeld=>?_);refine with_tabW laws_eqLeafS.tab6 laws_eqLeafS.bits6 (fun HT_ HW_=>?_)
        generalize wr.drew = w11 at HB hx1_0 hx1_1 hx2_0 hx2_1 hHeld ⊢
        refine pure_ (i:=0) (N:=some 17) (v:=?_) (a':=?_) #[true,false,false,false,false,false,false,false,false,false] rfl rfl (any_of HT_.out (by kernel_rfl)) (fun _ _ _ h=>h) (Or.inl ⟨by rfl,?_⟩) ?_ ?_
        rotate_left
        ·intro w'
         go_simp
         with_reducible rfl
        rotate_left
        ·simp only [Act.put,List.setIfInBounds_toArray,List.set_cons_zero,List.set_cons_succ,i64_w,i32_w]
         rfl
        refine pure_ (i:=1) (N:=some 18) (v:=?_) (a':=?_) #[true,true,false,false,false,false,false,false,false,false] rfl rfl (any_of HT_.out (by kernel_rfl)) (fun _ _ _ h=>h) (Or.inl ⟨by rfl,?_⟩) ?_ ?_
        rotate_left
        ·intro w'
         go_simp
         with_reducible rfl
        rotate_left
        ·simp only [Act.put,List.setIfInBounds_toArray,List.set_cons_zero,List.set_cons_succ,i64_w,i32_w]
         rfl
        refine pure_ (i:=2) (N:=some 19) (v:=?_) (a':=?_) #[true,true,true,false,false,false,false,false,false,false] rfl rfl (any_of HT_.out (by kernel_rfl)) (fun _ _ _ h=>h) (Or.inl ⟨by rfl,?_⟩) ?_ ?_
        rotate_left
        ·intro w'
         go_simp
         with_reducible rfl
        rotate_left
        ·simp only [Act.put,List.setIfInBounds_toArray,List.set_cons_zero,List.set_cons_succ,i64_w,i32_w]
         rfl
        refine pure_ (i:=4) (N:=some 21) (v:=?_) (a':=?_) #[true,true,true,false,true,false,false,false,false,false] rfl rfl (any_of HT_.out (by kernel_rfl)) (fun _ _ _ h=>h) (Or.inl ⟨by rfl,?_⟩) ?_ ?_
        rotate_left
        ·intro w'
         go_simp
         with_reducible rfl
        rotate_left
        ·simp only [Act.put,List.setIfInBounds_toArray,List.set_cons_zero,List.set_cons_succ,i64_w,i32_w]
         rfl
        refine pure_ (i:=5) (N:=some 22) (v:=?_) (a':=?_) #[true,true,true,false,true,true,false,false,false,false] rfl rfl (any_of HT_.out (by kernel_rfl)) (fun _ _ _ h=>h) (Or.inl ⟨by rfl,?_⟩) ?_ ?_
        rotate_left
        ·intro w'
         go_simp
         with_reducible rfl
        rotate_left
        ·simp only [Act.put,List.setIfInBounds_toArray,List.set_cons_zero,List.set_cons_succ,i64_w,i32_w]
         rfl
        refine pure_ (i:=6) (N:=some 23) (v:=?_) (a':=?_) #[true,true,true,false,true,true,true,false,false,false] rfl rfl (any_of HT_.out (by kernel_rfl)) (fun _ _ _ h=>h) (Or.inl ⟨by rfl,?_⟩) ?_ ?_
        rotate_left
        ·intro w'
         go_simp
         with_reducible rfl
        rotate_left
        ·simp only [Act.put,List.setIfInBounds_toArray,List.set_cons_zero,List.set_cons_succ,i64_w,i32_w]
         rfl
        refine take_ (i:=3) (N:=some 20) (v:=?_) (a':=?_) #[true,true,true,true,true,true,true,false,false,false] rfl rfl (take_ofW HT_.out HW_.out (by kernel_rfl)) (fun _ _ _ h=>h) (Or.inl ⟨by rfl,?_⟩) hHeld ?_ ?_
        rotate_left
        ·rintro w' ⟨s0,s1,s2,s3⟩
         go_simp
         with_reducible rfl
        rotate_left
        ·simp only [Act.put,List.setIfInBounds_toArray,List.set_cons_zero,List.set_cons_succ,i64_w,i32_w]
         rfl
        refine take_ (i:=7) (N:=some 24) (v:=?_) (a':=?_) #[true,true,true,true,true,true,true,true,false,false] rfl rfl (take_ofW HT_.out HW_.out (by kernel_rfl)) (fun _ _ _ h=>h) (Or.inl ⟨by rfl,?_⟩) hHeld ?_ ?_
        rotate_left
        ·rintro w' ⟨s0,s1,s2,s3⟩
         go_simp
         with_reducible rfl
        rotate_left
        ·simp only [Act.put,List.setIfInBounds_toArray,List.set_cons_zero,List.set_cons_succ,i64_w,i32_w]
         rfl
        refine one_ (i:=8) (N:=some 25) #[true,true,true,true,true,true,true,true,true,false] rfl rfl (one_of HT_.out (by kernel_rfl)) (by decide) (fun K hK=>?_)
        refine goes_ Try.func58 (by kernel_rfl) rfl #[.agg #[.int .i64 ((rd_T76 l0 x5_1).f0),.int .i64 ((rd_T76 l0 x5_1).f1)],.agg #[.int .i64 ((rd_T76 l1 x5_1).f0),.int .i64 ((rd_T76 l1 x5_1).f1)]] (by rfl) rfl rfl lm_ ?_
        with_reducible refine (laws_eqLeaf.calls ((rd_T76 l0 x5_1).f0) ((rd_T76 l0 x5_1).f1) ((rd_T76 l1 x5_1).f0) ((rd_T76 l1 x5_1).f1) false _ A7.out).mono ?_
        rintro e w12 ⟨rfl,hb⟩
        refine ⟨_,rfl,?_⟩
        have n0_:=a0_ (below_step hb_ hb)
        clear HB
        have HB:=n0_
        clear n0_
        (try clear hb)
        (try clear hb2)
        (try clear hk)
        (try clear hi)
        refine hK.out _ _ ⟨((HB.out.cell (World.block_lt_of_cell? w _ hw1_0)).trans hw1_0),((HB.out.cell (World.block_lt_of_cell? w _ hw1_1)).trans hw1_1),((HB.out.cell (World.block_lt_of_cell? w _ hw2_0)).trans hw2_0),((HB.out.cell (World.block_lt_of_cell? w _ hw2_1)).trans hw2_1)⟩ (fun hHeld=>?_)
        clear hK K
        refine norm_ (a':=?_) ?_ ?_
        rotate_left
        ·show Act.put _ (some 25) _ = _
         simp only [Act.put,List.setIfInBounds_toArray,List.set_cons_zero,List.set_cons_succ,i64_w,i32_w]
         rfl
        refine pure_ (i:=9) (N:=some 26) (v:=?_) (a':=?_) #[true,true,true,true,true,true,true,true,true,true] rfl rfl (any_of HT_.out (by kernel_rfl)) (fun _ _ _ h=>h) (Or.inl ⟨by rfl,?_⟩) ?_ ?_
        rotate_left
        ·intro w'
         go_simp
         with_reducible rfl
        rotate_left
        ·simp only [Act.put,List.setIfInBounds_toArray,List.set_cons_zero,List.set_cons_succ,i64_w,i32_w]
         rfl
        refine done_ (done_of HT_.out (by kernel_rfl)) ?_
        try go_wp2
        go_ret
        exact ⟨by first | rfl | (simp [errW_none,errW_some] <;> rfl) | (simp [*,errW_none,errW_some] <;> rfl),hb_⟩
      ·rw [if_neg c6] at H
       exact absurd H (by simp)
     ·rw [if_neg c5] at H
      exact absurd H (by simp)
    ·rw [if_neg c4] at H
     have c4b0 : decide (x5_1 < (l0.length : Int)) = false:=decide_eq_false c4
     clear c4
     obtain rfl:=Option.some.inj H
     go_wp2
     go_ret
     exact ⟨by first | rfl | (simp [errW_none,errW_some] <;> rfl) | (simp [*,errW_none,errW_some] <;> rfl),hb_⟩
 ·rw [if_neg c3] at H
  have c3b0 : ((l0.length : Int) == (l1.length : Int)) = false:=beq_eq_false_iff_ne.mpr c3
  have c3b1 : ((l0.length : Int) != (l1.length : Int)) = true:=bne_iff_ne.mpr c3
  have c3b2 : (l0.length == l1.length) = false:=by first | simpa using c3 | (simp at c3 ⊢;omega)
  obtain rfl:=Option.some.inj H
  go_enter Try.func25,Try.ntmps25
  go_wp2
  go_ret
  exact ⟨by first | rfl | (simp [errW_none,errW_some] <;> rfl) | (simp [*,errW_none,errW_some] <;> rfl),hb_⟩
theorem laws_eqLeafS_ev (l : List S76) (hl : l.length ≤ 9223372036854775807) : Ev (fun k=>laws_eqLeafS.f k l l) true:=by
 have h:=st_loop (fun k (_ : Unit) i=>laws_eqLeafS.l0 k l l i) l.length (fun _=>()) true (by
  intro k i hi
  have he : ∀ x : S76,laws_eqLeaf.f x.f0 x.f1 x.f0 x.f1 = some true:=by
   intro x
   simp [laws_eqLeaf.f]
  simp only [laws_eqLeafS.l0,he,Option.bind_some]
  rw [if_pos (by omega),if_pos (by omega),if_pos (by omega),if_pos trivial,wrap_succ (i:=(i : Int)) (n:=l.length) (by omega) (by omega) (by omega)]
  rfl) (by
  intro k
  simp only [laws_eqLeafS.l0]
  rw [if_neg (by omega)])
 refine Ev.of_mono (laws_eqLeafS.mono l l) (K:=l.length + 1) ?_
 unfold laws_eqLeafS.f
 rw [if_pos rfl]
 exact h
end Go.Proofs.Ytdepjpjgecdcjaa.P
namespace Go.Proofs.Ytdepjpjgecdcjaa.P
open Go.RowKit Go.Proofs.YtdepjpjgecdcjaaW.PrintWords Go.Proofs.YtdepjpjgecdcjaaW.PrintLast Go.Proofs.YtdepjpjgecdcjaaW.PrintMore
attribute [local go_sem] max2_int min2_int max_two min_two max_three min_three max_four min_four
set_option linter.unusedVariables false
set_option linter.unusedSimpArgs false
def mkLeaf (a : Int) : S76:=⟨a,a + 1⟩
def marksLeaf (a : Int) (n : Nat) : List S76:=(List.range n).map (fun i : Nat=>mkLeaf (a + 2 * (i : Int)))
theorem marksLeaf_len (a : Int) (n : Nat) : (marksLeaf a n).length = n:=by simp [marksLeaf]
end Go.Proofs.Ytdepjpjgecdcjaa.P
namespace Go.Proofs.Ytdepjpjgecdcjaa.P
open Go.RowKit Go.Proofs.YtdepjpjgecdcjaaW.PrintWords Go.Proofs.YtdepjpjgecdcjaaW.PrintLast Go.Proofs.YtdepjpjgecdcjaaW.PrintMore
attribute [local go_sem] max2_int min2_int max_two min_two max_three min_three max_four min_four
set_option linter.unusedVariables false
set_option linter.unusedSimpArgs false
def laws_markLeafS.l0 : Nat → List (S76) → Int → Int → Option (Int × (List (S76)))
 | 0,_,_,_=>none
 | k + 1,x0,x1,x5=>if x5 < (x0.length : Int) then (if 0 ≤ x5 then ((some (x0.set (x5 : Int).toNat (⟨x1,(rd_T76 x0 x5).f1⟩ : S76) : List (S76))).bind fun y1=>(laws_markLeafS.l0 k (y1.set (x5 : Int).toNat (⟨(rd_T76 y1 x5).f0,wrap64 (x1 + 1)⟩ : S76)) (wrap64 ((wrap64 (x1 + 1)) + 1)) (wrap64 (x5 + 1)))) else (none)) else (some (x1,x0))
def laws_markLeafS.f (k : Nat) (l0 : List (S76)) (a1 : Int) : Option (Int × (List (S76))):=laws_markLeafS.l0 k l0 a1 0
theorem laws_markLeafS.mono_l : ∀ k,(∀ y0 y1 y2,LeO (laws_markLeafS.l0 k y0 y1 y2) (laws_markLeafS.l0 (k + 1) y0 y1 y2))
 | 0=>fun _ _ _ r h=>by simp [laws_markLeafS.l0] at h
 | k + 1=>by
  have ih0:=laws_markLeafS.mono_l k
  ·intro y0 y1 y2
   unfold laws_markLeafS.l0
   repeat' first
   | (with_reducible exact ih0 _ _ _)
   | (with_reducible exact LeO.refl _)
   | (with_reducible exact LeO.none _)
   | (with_reducible refine LeO.ite ?_ ?_)
   | (with_reducible refine LeO.bind ?_ (fun _=>?_))
   | exact ih0 _ _ _
   | exact LeO.none _
   | refine LeO.ite ?_ ?_
   | refine LeO.bind ?_ (fun _=>?_)
theorem laws_markLeafS.mono : ∀ a0 a1 k,LeO (laws_markLeafS.f k a0 a1) (laws_markLeafS.f (k + 1) a0 a1):=by
 intro a0 a1 k
 have ih0:=laws_markLeafS.mono_l k
 unfold laws_markLeafS.f
 repeat' first
   | (with_reducible exact ih0 _ _ _)
   | (with_reducible exact LeO.refl _)
   | (with_reducible exact LeO.none _)
   | (with_reducible refine LeO.ite ?_ ?_)
   | (with_reducible refine LeO.bind ?_ (fun _=>?_))
   | exact ih0 _ _ _
   | exact LeO.none _
   | refine LeO.ite ?_ ?_
   | refine LeO.bind ?_ (fun _=>?_)
set_option maxHeartbeats 8000000 in
set_option maxRecDepth 100000 in
theorem laws_markLeafS.calls (k : Nat) (P0_ : Nat → Prop) (u9000_ : Value) (l0 : List (S76)) (a1 : Int) (r1 : Int) (r2 : List (S76)) (w0 w : World) (hB : Below w0.heap.size w0 w) (ho0 : Kd.R k76 76 w w0.heap.size P0_ u9000_ l0) (h : laws_markLeafS.f k l0 a1 = some (r1,r2)) :
  Calls Try.prog 26 #[u9000_,.int .i64 a1] w fun e w'=>e = .returned (.int .i64 r1) ∧ Kd.R k76 76 w' w0.heap.size (fun k_=>(P0_ k_ ∨ w.heap.size ≤ k_)) u9000_ r2 ∧ Below w0.heap.size w0 w' ∧ Kept w w' (fun k_=>P0_ k_):=by
 have HO0:=a0_ (show Kd.R k76 76 w w0.heap.size (fun k_=>(P0_ k_ ∨ w.heap.size ≤ k_)) u9000_ l0 from Kd.R_mono ho0 (fun k_ hk=>(.inl hk)))
 have HK:=a0_ (Kept.refl w (fun k_=>P0_ k_))
 have HW0:=a0_ hB.size
 have HB:=a0_ hB
 clear hB
 have H : (laws_markLeafS.l0 k l0 a1 0) = some (r1,r2):=h
 clear h
 have H':=a0_ H
 clear H
 go_enter Try.func26,Try.ntmps26
 go_wp2
 go_loopg [1,5] k (fun kq v1 v5 w'=>∃ (x0_1 : List (S76)) (x1_1 : Int) (x5_1 : Int),v1 = .int .i64 x1_1 ∧ v5 = .int .i64 x5_1 ∧ Aside0 (laws_markLeafS.l0 kq x0_1 x1_1 x5_1 = some (r1,r2)) ∧ Aside0 (kq ≤ k) ∧ Aside0 (Kd.R k76 76 w' w0.heap.size (fun k_=>(P0_ k_ ∨ w.heap.size ≤ k_)) u9000_ x0_1) ∧ Aside0 (Kept w w' (fun k_=>P0_ k_)) ∧ Aside0 (Below w0.heap.size w0 w'))
 case atStart=>exact ⟨(l0),(a1),(0),(by first | rfl | (simp;done) | (simp [*];done)),(by first | rfl | (simp;done) | (simp [*];done)),H',⟨Nat.le_refl _⟩,⟨by (with_reducible repeat (first | apply Kd.R_alloc | apply Kd.R_drewN | apply Kd.R_drew));exact HO0.out⟩,⟨by repeat (first | (with_reducible first | exact HK.out | apply Kept.alloc | apply Kept.drewN | apply Kept.drew) | exact HK.out)⟩,⟨hb_⟩⟩
 case round =>
  clear H'
  try clear c2
  try clear p2
  obtain ⟨x0_1,x1_1,x5_1,rfl,rfl,HA,HK1,HO_0,HK,HB⟩:=hrel
  cases gk with
  | zero=>exact absurd HA.out (by simp [laws_markLeafS.l0])
  | succ k1 =>
   have H:=HA.out
   clear HA
   simp only [laws_markLeafS.l0] at H
   by_cases c3 : x5_1 < (x0_1.length : Int)
   ·rw [if_pos c3] at H
    have c3b0 : decide (x5_1 < (x0_1.length : Int)) = true:=decide_eq_true c3
    clear c3
    by_cases c4 : 0 ≤ x5_1
    ·rw [if_pos c4] at H
     have c4b0 : decide (0 ≤ x5_1) = true:=decide_eq_true c4
     clear c4
     obtain ⟨y1,hy1⟩ : ∃ y_ : List (S76),y_ = (x0_1.set (x5_1 : Int).toNat (⟨x1_1,(rd_T76 x0_1 x5_1).f1⟩ : S76)):=⟨_,rfl⟩
     replace H : (laws_markLeafS.l0 k1 (y1.set (x5_1 : Int).toNat (⟨(rd_T76 y1 x5_1).f0,wrap64 (x1_1 + 1)⟩ : S76)) (wrap64 ((wrap64 (x1_1 + 1)) + 1)) (wrap64 (x5_1 + 1))) = some (r1,r2):=by first | (rw [hy1];with_reducible exact H) | (have H2_:=(Option.bind_some _ _).symm.trans H;rw [hy1];with_reducible exact H2_) | (have H2_:=(Option.bind_some _ _).symm.trans H;with_reducible exact H2_) | with_reducible exact H | (rw [hy1];exact H) | exact H
     have Ny1:=a0_ hy1
     clear hy1
     obtain ⟨y2,hy2⟩ : ∃ y_ : List (S76),y_ = (y1.set (x5_1 : Int).toNat (⟨(rd_T76 y1 x5_1).f0,wrap64 (x1_1 + 1)⟩ : S76)):=⟨_,rfl⟩
     replace H : (laws_markLeafS.l0 k1 y2 (wrap64 ((wrap64 (x1_1 + 1)) + 1)) (wrap64 (x5_1 + 1))) = some (r1,r2):=by first | (rw [hy2];with_reducible exact H) | (have H2_:=(Option.bind_some _ _).symm.trans H;rw [hy2];with_reducible exact H2_) | (have H2_:=(Option.bind_some _ _).symm.trans H;with_reducible exact H2_) | with_reducible exact H | (rw [hy2];exact H) | exact H
     have Ny2:=a0_ hy2
     clear hy2
     have H':=a0_ H
     clear H
     obtain ⟨Ao7,co7,eo7⟩:=Kd.R_slice HO_0.out
     subst eo7
     have p5 : 0 ≤ (x5_1 : Int):=of_decide_eq_true (by first | (with_reducible assumption) | assumption)
     have q5 : (x5_1 : Int) < ((x0_1.length : Int) : Int):=of_decide_eq_true (by first | (with_reducible assumption) | assumption)
     obtain ⟨go5,co5,eo5,gb5,gl5,cl5,HG5⟩:=Kd.R_form HO_0.out (by omega)
     (first | cases eo5 | (injection eo5 with ea_ en_ ec_;(first | subst ea_ | (injection ea_ with ea_;subst ea_));subst ec_;clear en_))
     have GB5:=a0_ gb5
     have GG5:=a0_ HG5
     clear gb5 gl5 HG5
     have HMgo5:=a0_ (show (P0_ go5 ∨ w.heap.size ≤ go5) from (HO_0.out.1 _ rfl))
     obtain ⟨ce5,hcl5,hM5,hcc5,hfr5⟩:=Kd.R_elem HO_0.out z76 (x5_1 : Int) p5 q5
     obtain rfl:=k76_openM hM5
     have hx5_0 : wr.cell? ⟨go5,(x5_1 : Int).toNat * 2,none⟩ = some (.int .i64 ((rd_T76 x0_1 x5_1).f0)):=hcc5 0 _ rfl
     have hx5_1 : wr.cell? ⟨go5,(x5_1 : Int).toNat * 2 + 1,none⟩ = some (.int .i64 ((rd_T76 x0_1 x5_1).f1)):=hcc5 1 _ rfl
     have hf5_0 : wr.frozen? ⟨go5,(x5_1 : Int).toNat * 2,none⟩ = false:=hfr5 0
     have hf5_1 : wr.frozen? ⟨go5,(x5_1 : Int).toNat * 2 + 1,none⟩ = false:=hfr5 1
     clear hcl5 hcc5 hfr5 hM5
     replace p5:=eq_true p5
     replace q5:=eq_true q5
     have HX8:=a0_ (show Kd.R k76 76 wr w0.heap.size (fun k_=>(P0_ k_ ∨ w.heap.size ≤ k_)) (.slice (some ⟨go5,0,none⟩) x0_1.length co7) x0_1 from (rr_ HO_0.out))
     obtain ⟨ce8,hcl8,hM8,hcc8,hfr8⟩:=Kd.R_elem HX8.out z76 (x5_1 : Int) (of_decide_eq_true (by first | (with_reducible assumption) | assumption)) (by have h_ : (x5_1 : Int) < ((x0_1.length : Int) : Int):=of_decide_eq_true (by first | (with_reducible assumption) | assumption);first | exact h_ | (have e_:=(Kd.R_reads' HO_0.out).1;omega) | simpa using h_)
     obtain rfl:=k76_openM hM8
     have HP8:=Kd.R_seg HX8.out (x5_1 : Int) (of_decide_eq_true (by first | (with_reducible assumption) | assumption)) (by have h_ : (x5_1 : Int) < ((x0_1.length : Int) : Int):=of_decide_eq_true (by first | (with_reducible assumption) | assumption);first | exact h_ | (have e_:=(Kd.R_reads' HO_0.out).1;omega) | simpa using h_) (seg:=[.int .i64 x1_1]) (j:=0) hcl8 hcc8 (show 1 ≤ 2 from by decide) (x':=(⟨x1_1,(rd_T76 x0_1 x5_1).f1⟩ : S76)) (k76_mkM _ _ _ (⟨x1_1,(rd_T76 x0_1 x5_1).f1⟩ : S76) ) (fun _ hk=>hk)
     have hx8_0:=hcc8 0 _ rfl
     (try simp only [show (k76).sz = 2 from rfl,Nat.mul_one,Nat.add_zero] at hx8_0)
     have hf8_0:=hfr8 0
     (try simp only [show (k76).sz = 2 from rfl,Nat.mul_one,Nat.add_zero] at hf8_0)
     clear hcl8 hcc8 hfr8 hM8
     go_wp2_with (first | ((with_reducible refine gate_store (t:=3) (p:=16) rfl ?_);refine store_event (t:=3) (p:=16) (v:=?vo_w9) (w1:=(wr.setCell ⟨go5,(x5_1 : Int).toNat * 2,none⟩ (.int .i64 x1_1))) ?hg ?ho ?hn ?hr ?_;(case ho=>rfl);(case hg=>rfl);(case hn=>rfl);(case hr=>first | (go_simp;done) | (go_simp;rfl));intro w9 hw;have hg : wr.grownBy w9 (some go5):=(by rw [hw];exact HP8.2);have hp_ : Kd.R k76 76 w9 w0.heap.size (fun k_=>(P0_ k_ ∨ w.heap.size ≤ k_)) (.slice (some ⟨go5,0,none⟩) x0_1.length co7) y1:=(by rw [hw,Ny1.out];exact HP8.1);clear HP8;have n0_:=a0_ (hp_);have n1_:=a0_ ((by rw [hw];exact below_set (HB.out) GB5.out : Below w0.heap.size w0 w9));have n2_:=a0_ (Kept.of_grown (S:=(fun k_=>P0_ k_)) hg (by repeat (first | (with_reducible first | exact HK.out | apply Kept.alloc | apply Kept.drewN | apply Kept.drew) | exact HK.out)) (fun k_ e_=>(HO_0.out.1 k_ e_)));clear HO_0 HB HK;have HO_0:=n0_;have HB:=n1_;have HK:=n2_;clear n0_ n1_ n2_;clear hg hw hp_;have p6 : 0 ≤ (x5_1 : Int):=of_decide_eq_true (by first | (with_reducible assumption) | assumption);have q6 : (x5_1 : Int) < ((x0_1.length : Int) : Int):=of_decide_eq_true (by first | (with_reducible assumption) | assumption);obtain ⟨ce6,hcl6,hM6,hcc6,hfr6⟩:=Kd.R_elem HO_0.out z76 (x5_1 : Int) p6 q6;obtain rfl:=k76_openM hM6;have hx6_0 : w9.cell? ⟨go5,(x5_1 : Int).toNat * 2,none⟩ = some (.int .i64 ((rd_T76 y1 x5_1).f0)):=hcc6 0 _ rfl;have hx6_1 : w9.cell? ⟨go5,(x5_1 : Int).toNat * 2 + 1,none⟩ = some (.int .i64 ((rd_T76 y1 x5_1).f1)):=hcc6 1 _ rfl;have hf6_0 : w9.frozen? ⟨go5,(x5_1 : Int).toNat * 2,none⟩ = false:=hfr6 0;have hf6_1 : w9.frozen? ⟨go5,(x5_1 : Int).toNat * 2 + 1,none⟩ = false:=hfr6 1;clear hcl6 hcc6 hfr6 hM6;replace p6:=eq_true p6;replace q6:=eq_true q6;have HX10:=a0_ (show Kd.R k76 76 w9 w0.heap.size (fun k_=>(P0_ k_ ∨ w.heap.size ≤ k_)) (.slice (some ⟨go5,0,none⟩) x0_1.length co7) y1 from (rr_ HO_0.out));obtain ⟨ce10,hcl10,hM10,hcc10,hfr10⟩:=Kd.R_elem HX10.out z76 (x5_1 : Int) (of_decide_eq_true (by first | (with_reducible assumption) | assumption)) (by have h_ : (x5_1 : Int) < ((x0_1.length : Int) : Int):=of_decide_eq_true (by first | (with_reducible assumption) | assumption);first | exact h_ | (have e_:=(Kd.R_reads' HO_0.out).1;omega) | simpa using h_);obtain rfl:=k76_openM hM10;have HP10:=Kd.R_seg HX10.out (x5_1 : Int) (of_decide_eq_true (by first | (with_reducible assumption) | assumption)) (by have h_ : (x5_1 : Int) < ((x0_1.length : Int) : Int):=of_decide_eq_true (by first | (with_reducible assumption) | assumption);first | exact h_ | (have e_:=(Kd.R_reads' HO_0.out).1;omega) | simpa using h_) (seg:=[.int .i64 (wrap64 (x1_1 + 1))]) (j:=1) hcl10 hcc10 (show 2 ≤ 2 from by decide) (x':=(⟨(rd_T76 y1 x5_1).f0,wrap64 (x1_1 + 1)⟩ : S76)) (k76_mkM _ _ _ (⟨(rd_T76 y1 x5_1).f0,wrap64 (x1_1 + 1)⟩ : S76) ) (fun _ hk=>hk);have hx10_1:=hcc10 1 _ rfl;(try simp only [show (k76).sz = 2 from rfl,Nat.mul_one,Nat.add_zero] at hx10_1);have hf10_1:=hfr10 1;(try simp only [show (k76).sz = 2 from rfl,Nat.mul_one,Nat.add_zero] at hf10_1);clear hcl10 hcc10 hfr10 hM10) | ((with_reducible refine gate_store (t:=3) (p:=23) rfl ?_);refine store_event (t:=3) (p:=23) (v:=?vo_w11) (w1:=(w9.setCell ⟨go5,(x5_1 : Int).toNat * 2 + 1,none⟩ (.int .i64 (wrap64 (x1_1 + 1))))) ?hg ?ho ?hn ?hr ?_;(case ho=>rfl);(case hg=>rfl);(case hn=>rfl);(case hr=>first | (go_simp;done) | (go_simp;rfl));intro w11 hw;have hg : w9.grownBy w11 (some go5):=(by rw [hw];exact HP10.2);have hp_ : Kd.R k76 76 w11 w0.heap.size (fun k_=>(P0_ k_ ∨ w.heap.size ≤ k_)) (.slice (some ⟨go5,0,none⟩) x0_1.length co7) y2:=(by rw [hw,Ny2.out];exact HP10.1);clear HP10;have n0_:=a0_ (hp_);have n1_:=a0_ ((by rw [hw];exact below_set (HB.out) GB5.out : Below w0.heap.size w0 w11));have n2_:=a0_ (Kept.of_grown (S:=(fun k_=>P0_ k_)) hg (by repeat (first | (with_reducible first | exact HK.out | apply Kept.alloc | apply Kept.drewN | apply Kept.drew) | exact HK.out)) (fun k_ e_=>(HO_0.out.1 k_ e_)));clear HO_0 HB HK;have HO_0:=n0_;have HB:=n1_;have HK:=n2_;clear n0_ n1_ n2_;clear hg hw hp_))
     go_roundg k1
     case measure=>have:=HK1.out;omega
     case rel=>exact ⟨(y2),(wrap64 ((wrap64 (x1_1 + 1)) + 1)),(wrap64 (x5_1 + 1)),(by first | rfl | (simp;done) | (simp [*];done)),(by first | rfl | (simp;done) | (simp [*];done)),H',⟨by have:=HK1.out;omega⟩,⟨by (with_reducible repeat (first | apply Kd.R_alloc | apply Kd.R_drewN | apply Kd.R_drew));exact HO_0.out⟩,⟨by repeat (first | (with_reducible first | exact HK.out | apply Kept.alloc | apply Kept.drewN | apply Kept.drew) | exact HK.out)⟩,⟨hb_⟩⟩
    ·rw [if_neg c4] at H
     exact absurd H (by simp)
   ·rw [if_neg c3] at H
    have c3b0 : decide (x5_1 < (x0_1.length : Int)) = false:=decide_eq_false c3
    clear c3
    simp only [Option.some.injEq,Prod.mk.injEq] at H
    obtain ⟨rfl,rfl⟩:=H
    obtain ⟨Ao12,co12,eo12⟩:=Kd.R_slice HO_0.out
    subst eo12
    go_wp2
    go_ret
    exact ⟨by first | rfl | (simp [errW_none,errW_some] <;> rfl) | (simp [*,errW_none,errW_some] <;> rfl),by (with_reducible repeat (first | apply Kd.R_alloc | apply Kd.R_drewN | apply Kd.R_drew));exact HO_0.out,hb_,by repeat (first | (with_reducible first | exact HK.out | apply Kept.alloc | apply Kept.drewN | apply Kept.drew) | exact HK.out)⟩
theorem laws_markLeafS_ev (l : List S76) (a : Int) (h0 : 0 ≤ a) (hl : a + 2 * l.length ≤ 4611686018427387904) : Ev (fun k=>laws_markLeafS.f k l a) (a + 2 * l.length,marksLeaf a l.length):=by
 have h:=st_loop (fun k (s : List S76 × Int) i=>laws_markLeafS.l0 k s.1 s.2 i) l.length (fun i=>((List.range i).map (fun j : Nat=>mkLeaf (a + 2 * (j : Int))) ++ l.drop i,a + 2 * (i : Int))) (a + 2 * l.length,marksLeaf a l.length) (by
  intro k i hi
  have hlen : ((List.range i).map (fun j : Nat=>mkLeaf (a + 2 * (j : Int))) ++ l.drop i).length = l.length:=by simp;omega
  have hset:=mark_at (fun j : Nat=>mkLeaf (a + 2 * (j : Int))) l i hi
  rw [← hset]
  generalize ((List.range i).map (fun j : Nat=>mkLeaf (a + 2 * (j : Int))) ++ l.drop i) = X at hlen ⊢
  have hr : ∀ v,rd_T76 (X.set i v) (i : Int) = v:=by
   intro v
   have : i < X.length:=by omega
   simp [rd_T76,this]
  simp only [laws_markLeafS.l0,Option.bind_some,Int.toNat_natCast,List.set_set,hr]
  rw [hlen,if_pos (by omega),if_pos (by omega),wrap_succ (i:=(i : Int)) (n:=l.length) (by omega) (by omega) (by omega)]
  generalize hb : a + 2 * (i : Int) = b
  have hb2 : a + 2 * ((i + 1 : Nat) : Int) = b + 1 + 1:=by omega
  rw [wrap_in (i:=b + 1) (by omega) (by omega),wrap_in (i:=b + 1 + 1) (by omega) (by omega),hb2]
  rfl) (by
  intro k
  simp only [laws_markLeafS.l0]
  rw [if_neg (by simp)]
  simp [marksLeaf])
 refine Ev.of_mono (laws_markLeafS.mono l a) (K:=l.length + 1) ?_
 unfold laws_markLeafS.f
 simpa using h
end Go.Proofs.Ytdepjpjgecdcjaa.P
namespace Go.Proofs.Ytdepjpjgecdcjaa.P
open Go.RowKit Go.Proofs.YtdepjpjgecdcjaaW.PrintWords Go.Proofs.YtdepjpjgecdcjaaW.PrintLast Go.Proofs.YtdepjpjgecdcjaaW.PrintMore
attribute [local go_sem] max2_int min2_int max_two min_two max_three min_three max_four min_four
set_option linter.unusedVariables false
set_option linter.unusedSimpArgs false
def laws_heldLeafS.l0 : Nat → List (S76) → Int → Int → Option (Int)
 | 0,_,_,_=>none
 | k + 1,x0,x1,x5=>if x5 < (x0.length : Int) then (if 0 ≤ x5 then (if ((rd_T76 x0 x5).f0) = x1 then (if ((rd_T76 x0 x5).f1) = (wrap64 (x1 + 1)) then (laws_heldLeafS.l0 k x0 (wrap64 ((wrap64 (x1 + 1)) + 1)) (wrap64 (x5 + 1))) else (some (-1))) else (some (-1))) else (none)) else (some x1)
def laws_heldLeafS.f (k : Nat) (l0 : List (S76)) (a1 : Int) : Option (Int):=laws_heldLeafS.l0 k l0 a1 0
theorem laws_heldLeafS.mono_l : ∀ k,(∀ y0 y1 y2,LeO (laws_heldLeafS.l0 k y0 y1 y2) (laws_heldLeafS.l0 (k + 1) y0 y1 y2))
 | 0=>fun _ _ _ r h=>by simp [laws_heldLeafS.l0] at h
 | k + 1=>by
  have ih0:=laws_heldLeafS.mono_l k
  ·intro y0 y1 y2
   unfold laws_heldLeafS.l0
   repeat' first
   | (with_reducible exact ih0 _ _ _)
   | (with_reducible exact LeO.refl _)
   | (with_reducible exact LeO.none _)
   | (with_reducible refine LeO.ite ?_ ?_)
   | (with_reducible refine LeO.bind ?_ (fun _=>?_))
   | exact ih0 _ _ _
   | exact LeO.none _
   | refine LeO.ite ?_ ?_
   | refine LeO.bind ?_ (fun _=>?_)
theorem laws_heldLeafS.mono : ∀ a0 a1 k,LeO (laws_heldLeafS.f k a0 a1) (laws_heldLeafS.f (k + 1) a0 a1):=by
 intro a0 a1 k
 have ih0:=laws_heldLeafS.mono_l k
 unfold laws_heldLeafS.f
 repeat' first
   | (with_reducible exact ih0 _ _ _)
   | (with_reducible exact LeO.refl _)
   | (with_reducible exact LeO.none _)
   | (with_reducible refine LeO.ite ?_ ?_)
   | (with_reducible refine LeO.bind ?_ (fun _=>?_))
   | exact ih0 _ _ _
   | exact LeO.none _
   | refine LeO.ite ?_ ?_
   | refine LeO.bind ?_ (fun _=>?_)
set_option maxHeartbeats 8000000 in
set_option maxRecDepth 100000 in
theorem laws_heldLeafS.calls (k : Nat) (A0 : Option Addr) (c0 : Nat) (l0 : List (S76)) (a1 : Int) (r : Int) (w : World) (hr0 : Kd.C k76 w A0 l0.length l0) (hc0 : l0.length ≤ c0) (h : laws_heldLeafS.f k l0 a1 = some r) :
  Calls Try.prog 27 #[.slice A0 l0.length c0,.int .i64 a1] w fun e w'=>e = .returned (.int .i64 r) ∧ Drawn0 w w':=by
 have HR0:=a0_ hr0
 have HC0:=a0_ hc0
 clear hr0 hc0
 have H : (laws_heldLeafS.l0 k l0 a1 0) = some r:=h
 clear h
 have H':=a0_ H
 clear H
 go_enter Try.func27,Try.ntmps27
 go_wp2
 go_loopg [1,5] k (fun kq v1 v5 w'=>∃ (x1_1 : Int) (x5_1 : Int),v1 = .int .i64 x1_1 ∧ v5 = .int .i64 x5_1 ∧ Aside0 (laws_heldLeafS.l0 kq l0 x1_1 x5_1 = some r) ∧ Aside0 (kq ≤ k) ∧ Drawn0 w w')
 case atStart=>exact ⟨(a1),(0),(by first | rfl | (simp;done) | (simp [*];done)),(by first | rfl | (simp;done) | (simp [*];done)),H',⟨Nat.le_refl _⟩,by repeat (first | exact Drawn0.refl _ | apply Drawn0.step)⟩
 case round =>
  clear H'
  try clear c2
  try clear p2
  obtain ⟨x1_1,x5_1,rfl,rfl,HA,HK1,⟨m1,rfl⟩⟩:=hrel
  cases gk with
  | zero=>exact absurd HA.out (by simp [laws_heldLeafS.l0])
  | succ k1 =>
   have H:=HA.out
   clear HA
   simp only [laws_heldLeafS.l0] at H
   by_cases c3 : x5_1 < (l0.length : Int)
   ·rw [if_pos c3] at H
    have c3b0 : decide (x5_1 < (l0.length : Int)) = true:=decide_eq_true c3
    clear c3
    by_cases c4 : 0 ≤ x5_1
    ·rw [if_pos c4] at H
     have c4b0 : decide (0 ≤ x5_1) = true:=decide_eq_true c4
     clear c4
     by_cases c5 : ((rd_T76 l0 x5_1).f0) = x1_1
     ·rw [if_pos c5] at H
      have c5b0 : (((rd_T76 l0 x5_1).f0) == x1_1) = true:=beq_iff_eq.mpr c5
      have c5b1 : (((rd_T76 l0 x5_1).f0) != x1_1) = false:=bne_eq_false_iff_eq.mpr c5
      clear c5
      by_cases c6 : ((rd_T76 l0 x5_1).f1) = (wrap64 (x1_1 + 1))
      ·rw [if_pos c6] at H
       have c6b0 : (((rd_T76 l0 x5_1).f1) == (wrap64 (x1_1 + 1))) = true:=beq_iff_eq.mpr c6
       have c6b1 : (((rd_T76 l0 x5_1).f1) != (wrap64 (x1_1 + 1))) = false:=bne_eq_false_iff_eq.mpr c6
       clear c6
       have H':=a0_ H
       clear H
       have p1 : 0 ≤ (x5_1 : Int):=of_decide_eq_true (by first | (with_reducible assumption) | assumption)
       have q1 : x5_1 < (l0.length : Int):=of_decide_eq_true (by first | (with_reducible assumption) | assumption)
       obtain ⟨ad1,e1,hx1_0,hx1_1⟩:=at_T76 HR0.out x5_1 p1 q1
       cases e1
       replace p1:=eq_true p1
       replace q1:=eq_true q1
       have p2 : 0 ≤ (x5_1 : Int):=of_decide_eq_true (by first | (with_reducible assumption) | assumption)
       have q2 : x5_1 < (l0.length : Int):=of_decide_eq_true (by first | (with_reducible assumption) | assumption)
       obtain ⟨ad2,e2,hx2_0,hx2_1⟩:=at_T76 HR0.out x5_1 p2 q2
       obtain rfl : ad1 = ad2:=(by injection e2)
       replace p2:=eq_true p2
       replace q2:=eq_true q2
       go_wp2
       go_roundg k1
       case measure=>have:=HK1.out;omega
       case rel=>exact ⟨(wrap64 ((wrap64 (x1_1 + 1)) + 1)),(wrap64 (x5_1 + 1)),(by first | rfl | (simp;done) | (simp [*];done)),(by first | rfl | (simp;done) | (simp [*];done)),H',⟨by have:=HK1.out;omega⟩,by repeat (first | exact Drawn0.refl _ | apply Drawn0.step)⟩
      ·rw [if_neg c6] at H
       have c6b0 : (((rd_T76 l0 x5_1).f1) == (wrap64 (x1_1 + 1))) = false:=beq_eq_false_iff_ne.mpr c6
       have c6b1 : (((rd_T76 l0 x5_1).f1) != (wrap64 (x1_1 + 1))) = true:=bne_iff_ne.mpr c6
       obtain rfl:=Option.some.inj H
       have p1 : 0 ≤ (x5_1 : Int):=of_decide_eq_true (by first | (with_reducible assumption) | assumption)
       have q1 : x5_1 < (l0.length : Int):=of_decide_eq_true (by first | (with_reducible assumption) | assumption)
       obtain ⟨ad1,e1,hx1_0,hx1_1⟩:=at_T76 HR0.out x5_1 p1 q1
       cases e1
       replace p1:=eq_true p1
       replace q1:=eq_true q1
       have p2 : 0 ≤ (x5_1 : Int):=of_decide_eq_true (by first | (with_reducible assumption) | assumption)
       have q2 : x5_1 < (l0.length : Int):=of_decide_eq_true (by first | (with_reducible assumption) | assumption)
       obtain ⟨ad2,e2,hx2_0,hx2_1⟩:=at_T76 HR0.out x5_1 p2 q2
       obtain rfl : ad1 = ad2:=(by injection e2)
       replace p2:=eq_true p2
       replace q2:=eq_true q2
       go_wp2
       go_ret
       exact ⟨by first | rfl | (simp;done) | (simp [*];done),by repeat (first | exact Drawn0.refl _ | apply Drawn0.step)⟩
     ·rw [if_neg c5] at H
      have c5b0 : (((rd_T76 l0 x5_1).f0) == x1_1) = false:=beq_eq_false_iff_ne.mpr c5
      have c5b1 : (((rd_T76 l0 x5_1).f0) != x1_1) = true:=bne_iff_ne.mpr c5
      obtain rfl:=Option.some.inj H
      have p1 : 0 ≤ (x5_1 : Int):=of_decide_eq_true (by first | (with_reducible assumption) | assumption)
      have q1 : x5_1 < (l0.length : Int):=of_decide_eq_true (by first | (with_reducible assumption) | assumption)
      obtain ⟨ad1,e1,hx1_0,hx1_1⟩:=at_T76 HR0.out x5_1 p1 q1
      cases e1
      replace p1:=eq_true p1
      replace q1:=eq_true q1
      go_wp2
      go_ret
      exact ⟨by first | rfl | (simp;done) | (simp [*];done),by repeat (first | exact Drawn0.refl _ | apply Drawn0.step)⟩
    ·rw [if_neg c4] at H
     exact absurd H (by simp)
   ·rw [if_neg c3] at H
    have c3b0 : decide (x5_1 < (l0.length : Int)) = false:=decide_eq_false c3
    clear c3
    obtain rfl:=Option.some.inj H
    go_wp2
    go_ret
    exact ⟨by first | rfl | (simp;done) | (simp [*];done),by repeat (first | exact Drawn0.refl _ | apply Drawn0.step)⟩
theorem laws_heldLeafS_ev (a : Int) (n : Nat) (h0 : 0 ≤ a) (hl : a + 2 * n ≤ 4611686018427387904) : Ev (fun k=>laws_heldLeafS.f k (marksLeaf a n) a) (a + 2 * n):=by
 have h:=st_loop (fun k (s : Int) i=>laws_heldLeafS.l0 k (marksLeaf a n) s i) n (fun i=>a + 2 * (i : Int)) (a + 2 * n) (by
  intro k i hi
  have hr : rd_T76 (marksLeaf a n) (i : Int) = mkLeaf (a + 2 * (i : Int)):=by simp [rd_T76,marksLeaf,hi]
  simp only [laws_heldLeafS.l0,hr]
  generalize hb : a + 2 * (i : Int) = b
  have hb2 : a + 2 * ((i + 1 : Nat) : Int) = b + 1 + 1:=by omega
  rw [marksLeaf_len,if_pos (by omega),if_pos (by omega),wrap_succ (i:=(i : Int)) (n:=n) (by omega) (by omega) (by omega),wrap_in (i:=b + 1) (by omega) (by omega),wrap_in (i:=b + 1 + 1) (by omega) (by omega),hb2]
  simp [mkLeaf]) (by
  intro k
  simp only [laws_heldLeafS.l0]
  rw [marksLeaf_len,if_neg (by omega)])
 refine Ev.of_mono (laws_heldLeafS.mono (marksLeaf a n) a) (K:=n + 1) ?_
 unfold laws_heldLeafS.f
 simpa using h
end Go.Proofs.Ytdepjpjgecdcjaa.P
namespace Go.Proofs.Ytdepjpjgecdcjaa.P
open Go.RowKit Go.Proofs.YtdepjpjgecdcjaaW.PrintWords Go.Proofs.YtdepjpjgecdcjaaW.PrintLast Go.Proofs.YtdepjpjgecdcjaaW.PrintMore
attribute [local go_sem] max2_int min2_int max_two min_two max_three min_three max_four min_four
set_option linter.unusedVariables false
set_option linter.unusedSimpArgs false
def laws_FnExactLeavesOf.j0 : Nat → List (S65) → List (S76) → List (S76) → Bool → List (S85) → Option (Bool)
 | 0,_,_,_,_,_=>none
 | k + 1,x1,x6,x9,x63,x2000=>if x63 = true then (some false) else ((laws_markLeafS.f k x9 1).bind fun bt37=>((laws_heldLeafS.f k bt37.2 1).bind fun t39=>(if t39 < 0 then (some false) else (if t39 = bt37.1 then ((laws_toTree.f k x2000).bind fun t40=>((laws_toPartS.f k x1).bind fun t43=>((impl_LeavesOf.f k t40 t43).bind fun t46=>((laws_eqLeafS.f k t46 x6).bind fun t49=>(if t49 = true then ((laws_heldLeafS.f k bt37.2 1).bind fun t50=>(if t50 < 0 then (some false) else (if t50 = bt37.1 then (some true) else (some false)))) else (some false)))))) else (some false)))))
def laws_FnExactLeavesOf.f (k : Nat) (l0_0 : List (S85)) (l1 : List (S65)) : Option (Bool):=(laws_szTree.f k l0_0 1048576).bind fun t2=>(if t2 < 0 then (some true) else ((laws_szPartS.f l1 t2).bind fun t3=>(if t3 < 0 then (some true) else ((laws_toTree.f k l0_0).bind fun t4=>((laws_toPartS.f k l1).bind fun t7=>((spec_LeavesOf.f k t4 t7).bind fun t10=>((laws_toTree.f k l0_0).bind fun t13=>((laws_toPartS.f k l1).bind fun t17=>((impl_LeavesOf.f k t13 t17).bind fun t20=>((laws_eqLeafS.f k t20 t10).bind fun t23=>(if t23 = true then ((laws_toTree.f k l0_0).bind fun t24=>((laws_eqTree.f k t13 t24).bind fun t27=>(if t27 = true then ((laws_toPartS.f k l1).bind fun t28=>((laws_eqPartS.f k t17 t28).bind fun t31=>(if t31 = true then ((laws_markTree.f k t13 1).bind fun bt32=>((laws_markPartS.f k t17 bt32.1).bind fun bt34=>(if bt34.1 < 0 then (laws_FnExactLeavesOf.j0 k l1 t10 t20 true l0_0) else ((laws_eqLeafS.f k t20 t10).bind fun t36=>(laws_FnExactLeavesOf.j0 k l1 t10 t20 (!t36) l0_0))))) else (some false)))) else (some false)))) else (some false))))))))))))
theorem laws_FnExactLeavesOf.mono_l : ∀ k,(∀ y0 y1 y2 y3 y4,LeO (laws_FnExactLeavesOf.j0 k y0 y1 y2 y3 y4) (laws_FnExactLeavesOf.j0 (k + 1) y0 y1 y2 y3 y4))
 | 0=>fun _ _ _ _ _ r h=>by simp [laws_FnExactLeavesOf.j0] at h
 | k + 1=>by
  have ih0:=laws_FnExactLeavesOf.mono_l k
  ·intro y0 y1 y2 y3 y4
   unfold laws_FnExactLeavesOf.j0
   repeat' first
   | (with_reducible exact ih0 _ _ _ _ _)
   | (with_reducible exact impl_LeavesOf.mono _ _ _)
   | (with_reducible exact laws_eqLeafS.mono _ _ _)
   | (with_reducible exact laws_eqPartS.mono _ _ _)
   | (with_reducible exact laws_eqTree.mono _ _ _)
   | (with_reducible exact laws_heldLeafS.mono _ _ _)
   | (with_reducible exact laws_markLeafS.mono _ _ _)
   | (with_reducible exact laws_markPartS.mono _ _ _)
   | (with_reducible exact laws_markTree.mono _ _ _)
   | (with_reducible exact laws_szTree.mono _ _ _)
   | (with_reducible exact laws_toPartS.mono _ _)
   | (with_reducible exact laws_toTree.mono _ _)
   | (with_reducible exact spec_LeavesOf.mono _ _ _)
   | (with_reducible exact LeO.refl _)
   | (with_reducible exact LeO.none _)
   | (with_reducible refine LeO.ite ?_ ?_)
   | (with_reducible refine LeO.bind ?_ (fun _=>?_))
   | exact ih0 _ _ _ _ _
   | exact impl_LeavesOf.mono _ _ _
   | exact laws_eqLeafS.mono _ _ _
   | exact laws_eqPartS.mono _ _ _
   | exact laws_eqTree.mono _ _ _
   | exact laws_heldLeafS.mono _ _ _
   | exact laws_markLeafS.mono _ _ _
   | exact laws_markPartS.mono _ _ _
   | exact laws_markTree.mono _ _ _
   | exact laws_szTree.mono _ _ _
   | exact laws_toPartS.mono _ _
   | exact laws_toTree.mono _ _
   | exact spec_LeavesOf.mono _ _ _
   | exact LeO.none _
   | refine LeO.ite ?_ ?_
   | refine LeO.bind ?_ (fun _=>?_)
theorem laws_FnExactLeavesOf.mono : ∀ a0 a1 k,LeO (laws_FnExactLeavesOf.f k a0 a1) (laws_FnExactLeavesOf.f (k + 1) a0 a1):=by
 intro a0 a1 k
 have ih0:=laws_FnExactLeavesOf.mono_l k
 unfold laws_FnExactLeavesOf.f
 repeat' first
   | (with_reducible exact ih0 _ _ _ _ _)
   | (with_reducible exact impl_LeavesOf.mono _ _ _)
   | (with_reducible exact laws_eqLeafS.mono _ _ _)
   | (with_reducible exact laws_eqPartS.mono _ _ _)
   | (with_reducible exact laws_eqTree.mono _ _ _)
   | (with_reducible exact laws_heldLeafS.mono _ _ _)
   | (with_reducible exact laws_markLeafS.mono _ _ _)
   | (with_reducible exact laws_markPartS.mono _ _ _)
   | (with_reducible exact laws_markTree.mono _ _ _)
   | (with_reducible exact laws_szTree.mono _ _ _)
   | (with_reducible exact laws_toPartS.mono _ _)
   | (with_reducible exact laws_toTree.mono _ _)
   | (with_reducible exact spec_LeavesOf.mono _ _ _)
   | (with_reducible exact LeO.refl _)
   | (with_reducible exact LeO.none _)
   | (with_reducible refine LeO.ite ?_ ?_)
   | (with_reducible refine LeO.bind ?_ (fun _=>?_))
   | exact ih0 _ _ _ _ _
   | exact impl_LeavesOf.mono _ _ _
   | exact laws_eqLeafS.mono _ _ _
   | exact laws_eqPartS.mono _ _ _
   | exact laws_eqTree.mono _ _ _
   | exact laws_heldLeafS.mono _ _ _
   | exact laws_markLeafS.mono _ _ _
   | exact laws_markPartS.mono _ _ _
   | exact laws_markTree.mono _ _ _
   | exact laws_szTree.mono _ _ _
   | exact laws_toPartS.mono _ _
   | exact laws_toTree.mono _ _
   | exact spec_LeavesOf.mono _ _ _
   | exact LeO.none _
   | refine LeO.ite ?_ ?_
   | refine LeO.bind ?_ (fun _=>?_)
set_option maxHeartbeats 8000000 in
set_option maxRecDepth 100000 in
theorem laws_FnExactLeavesOf.calls (k : Nat) (A0_0 : Option Addr) (c0_0 : Nat) (l0_0 : List (S85)) (A1 : Option Addr) (c1 : Nat) (l1 : List (S65)) (r : Bool) (w : World) (hr0_0 : Kd.C k85 w A0_0 l0_0.length l0_0) (hc0_0 : l0_0.length ≤ c0_0) (hr1 : Kd.C k65 w A1 l1.length l1) (hc1 : l1.length ≤ c1) (h : laws_FnExactLeavesOf.f k l0_0 l1 = some r) :
  Calls Try.prog 5 #[.agg #[.slice A0_0 l0_0.length c0_0],.slice A1 l1.length c1] w fun e w'=>e = .returned (.bool r) ∧ Below w.heap.size w w':=by
 have hu24:=Try.underlying24
 have hu31:=Try.underlying31
 have HR0_0:=a0_ hr0_0
 have HC0_0:=a0_ hc0_0
 clear hr0_0 hc0_0
 have HR1:=a0_ hr1
 have HC1:=a0_ hc1
 clear hr1 hc1
 have HB:=a0_ (Below.refl w.heap.size w)
 have H : ((laws_szTree.f k l0_0 1048576).bind fun t2=>(if t2 < 0 then (some true) else ((laws_szPartS.f l1 t2).bind fun t3=>(if t3 < 0 then (some true) else ((laws_toTree.f k l0_0).bind fun t4=>((laws_toPartS.f k l1).bind fun t7=>((spec_LeavesOf.f k t4 t7).bind fun t10=>((laws_toTree.f k l0_0).bind fun t13=>((laws_toPartS.f k l1).bind fun t17=>((impl_LeavesOf.f k t13 t17).bind fun t20=>((laws_eqLeafS.f k t20 t10).bind fun t23=>(if t23 = true then ((laws_toTree.f k l0_0).bind fun t24=>((laws_eqTree.f k t13 t24).bind fun t27=>(if t27 = true then ((laws_toPartS.f k l1).bind fun t28=>((laws_eqPartS.f k t17 t28).bind fun t31=>(if t31 = true then ((laws_markTree.f k t13 1).bind fun bt32=>((laws_markPartS.f k t17 bt32.1).bind fun bt34=>(if bt34.1 < 0 then (laws_FnExactLeavesOf.j0 k l1 t10 t20 true l0_0) else ((laws_eqLeafS.f k t20 t10).bind fun t36=>(laws_FnExactLeavesOf.j0 k l1 t10 t20 (!t36) l0_0))))) else (some false)))) else (some false)))) else (some false))))))))))))) = some r:=h
 clear h
 replace H:=Option.bind_eq_some_iff.mp H
 obtain ⟨t2,A30,H⟩:=H
 replace H : (if t2 < 0 then (some true) else ((laws_szPartS.f l1 t2).bind fun t3=>(if t3 < 0 then (some true) else ((laws_toTree.f k l0_0).bind fun t4=>((laws_toPartS.f k l1).bind fun t7=>((spec_LeavesOf.f k t4 t7).bind fun t10=>((laws_toTree.f k l0_0).bind fun t13=>((laws_toPartS.f k l1).bind fun t17=>((impl_LeavesOf.f k t13 t17).bind fun t20=>((laws_eqLeafS.f k t20 t10).bind fun t23=>(if t23 = true then ((laws_toTree.f k l0_0).bind fun t24=>((laws_eqTree.f k t13 t24).bind fun t27=>(if t27 = true then ((laws_toPartS.f k l1).bind fun t28=>((laws_eqPartS.f k t17 t28).bind fun t31=>(if t31 = true then ((laws_markTree.f k t13 1).bind fun bt32=>((laws_markPartS.f k t17 bt32.1).bind fun bt34=>(if bt34.1 < 0 then (laws_FnExactLeavesOf.j0 k l1 t10 t20 true l0_0) else ((laws_eqLeafS.f k t20 t10).bind fun t36=>(laws_FnExactLeavesOf.j0 k l1 t10 t20 (!t36) l0_0))))) else (some false)))) else (some false)))) else (some false)))))))))))) = some r:=H
 have A3:=a0_ A30
 clear A30
 by_cases c4 : t2 < 0
 ·rw [if_pos c4] at H
  have c4b0 : decide (t2 < 0) = true:=decide_eq_true c4
  clear c4
  obtain rfl:=Option.some.inj H
  go_enter Try.func5,Try.ntmps5
  go_wp2_with (first | ((with_reducible refine gate_dst (N:=2) rfl ?_);refine box_event ?hg (N:=2) ?hd (cs:=#[.slice A0_0 l0_0.length c0_0]) (t:=24) ?hr ?_;(case hd=>rfl);(case hg=>rfl);(case hr=>first | (go_simp;done) | (go_simp;rfl));intro gb1 hg w5 hbox hb;have n0_:=a0_ (below_step hb_ hb);have n1_:=a0_ (hbox);have n2_:=a0_ ((by rw [hg];exact (below_size hb_) : w.heap.size ≤ gb1));have n3_:=a0_ ((by rw [hg];exact (below_size hb_) : w.heap.size ≤ gb1));clear HB;have HB:=n0_;have BK1:=n1_;have GW1:=n2_;have GE1:=n3_;clear n0_ n1_ n2_ n3_;clear hb hbox hg;have hcz6_0 : w5.cell? ⟨gb1,0,none⟩ = some (.slice A0_0 l0_0.length c0_0):=(blk_cell BK1.out 0).trans rfl;have hfz6_0:=blk_frozen BK1.out 0) | ((with_reducible refine gate_callee (f:=10) rfl ?_);refine goesL_ (some 16) rfl rfl Try.func10 (by kernel_rfl) rfl #[.agg #[.slice A0_0 l0_0.length c0_0],.int .i64 1048576] rfl lm_ ?_;(with_reducible refine (laws_szTree.calls k _ _ l0_0 1048576 t2 _ ?side1 ?side2 A3.out).mono ?_);(case side1=>exact cc_ (Kd.C_below HR0_0.out HB.out));(case side2=>exact HC0_0.out);rintro e w7 ⟨rfl,hb⟩;refine ⟨_,rfl,?_⟩;have n0_:=a0_ (blk_below (g:=gb1) (o:=.cells #[.slice A0_0 l0_0.length c0_0] 24 (0,0)) (bb_ BK1.out) hb);have n1_:=a0_ (below_step hb_ hb);clear BK1 HB;have BK1:=n0_;have HB:=n1_;clear n0_ n1_;(try clear hb);(try clear hb2);(try clear hk);(try clear hi)))
  go_ret
  exact ⟨by first | rfl | (simp [errW_none,errW_some] <;> rfl) | (simp [*,errW_none,errW_some] <;> rfl),hb_⟩
 ·rw [if_neg c4] at H
  have c4b0 : decide (t2 < 0) = false:=decide_eq_false c4
  clear c4
  replace H:=Option.bind_eq_some_iff.mp H
  obtain ⟨t3,A80,H⟩:=H
  replace H : (if t3 < 0 then (some true) else ((laws_toTree.f k l0_0).bind fun t4=>((laws_toPartS.f k l1).bind fun t7=>((spec_LeavesOf.f k t4 t7).bind fun t10=>((laws_toTree.f k l0_0).bind fun t13=>((laws_toPartS.f k l1).bind fun t17=>((impl_LeavesOf.f k t13 t17).bind fun t20=>((laws_eqLeafS.f k t20 t10).bind fun t23=>(if t23 = true then ((laws_toTree.f k l0_0).bind fun t24=>((laws_eqTree.f k t13 t24).bind fun t27=>(if t27 = true then ((laws_toPartS.f k l1).bind fun t28=>((laws_eqPartS.f k t17 t28).bind fun t31=>(if t31 = true then ((laws_markTree.f k t13 1).bind fun bt32=>((laws_markPartS.f k t17 bt32.1).bind fun bt34=>(if bt34.1 < 0 then (laws_FnExactLeavesOf.j0 k l1 t10 t20 true l0_0) else ((laws_eqLeafS.f k t20 t10).bind fun t36=>(laws_FnExactLeavesOf.j0 k l1 t10 t20 (!t36) l0_0))))) else (some false)))) else (some false)))) else (some false)))))))))) = some r:=H
  have A8:=a0_ A80
  clear A80
  by_cases c9 : t3 < 0
  ·rw [if_pos c9] at H
   have c9b0 : decide (t3 < 0) = true:=decide_eq_true c9
   clear c9
   obtain rfl:=Option.some.inj H
   go_enter Try.func5,Try.ntmps5
   go_wp2_with (first | ((with_reducible refine gate_dst (N:=2) rfl ?_);refine box_event ?hg (N:=2) ?hd (cs:=#[.slice A0_0 l0_0.length c0_0]) (t:=24) ?hr ?_;(case hd=>rfl);(case hg=>rfl);(case hr=>first | (go_simp;done) | (go_simp;rfl));intro gb1 hg w10 hbox hb;have n0_:=a0_ (below_step hb_ hb);have n1_:=a0_ (hbox);have n2_:=a0_ ((by rw [hg];exact (below_size hb_) : w.heap.size ≤ gb1));have n3_:=a0_ ((by rw [hg];exact (below_size hb_) : w.heap.size ≤ gb1));clear HB;have HB:=n0_;have BK1:=n1_;have GW1:=n2_;have GE1:=n3_;clear n0_ n1_ n2_ n3_;clear hb hbox hg;have hcz11_0 : w10.cell? ⟨gb1,0,none⟩ = some (.slice A0_0 l0_0.length c0_0):=(blk_cell BK1.out 0).trans rfl;have hfz11_0:=blk_frozen BK1.out 0) | ((with_reducible refine gate_callee (f:=10) rfl ?_);refine goesL_ (some 16) rfl rfl Try.func10 (by kernel_rfl) rfl #[.agg #[.slice A0_0 l0_0.length c0_0],.int .i64 1048576] rfl lm_ ?_;(with_reducible refine (laws_szTree.calls k _ _ l0_0 1048576 t2 _ ?side1 ?side2 A3.out).mono ?_);(case side1=>exact cc_ (Kd.C_below HR0_0.out HB.out));(case side2=>exact HC0_0.out);rintro e w12 ⟨rfl,hb⟩;refine ⟨_,rfl,?_⟩;have n0_:=a0_ (blk_below (g:=gb1) (o:=.cells #[.slice A0_0 l0_0.length c0_0] 24 (0,0)) (bb_ BK1.out) hb);have n1_:=a0_ (below_step hb_ hb);clear BK1 HB;have BK1:=n0_;have HB:=n1_;clear n0_ n1_;(try clear hb);(try clear hb2);(try clear hk);(try clear hi)) | ((with_reducible refine gate_callee (f:=11) rfl ?_);refine goesL_ (some 21) rfl rfl Try.func11 (by kernel_rfl) rfl #[.slice A1 l1.length c1,.int .i64 t2] rfl lm_ ?_;(with_reducible refine (laws_szPartS.calls _ _ l1 t2 t3 _ ?side1 ?side2 A8.out).mono ?_);(case side1=>exact cc_ (Kd.C_below HR1.out HB.out));(case side2=>exact HC1.out);rintro e w' ⟨rfl,⟨nd,rfl⟩⟩;refine ⟨_,rfl,?_⟩))
   go_ret
   exact ⟨by first | rfl | (simp [errW_none,errW_some] <;> rfl) | (simp [*,errW_none,errW_some] <;> rfl),hb_⟩
  ·rw [if_neg c9] at H
   have c9b0 : decide (t3 < 0) = false:=decide_eq_false c9
   clear c9
   replace H:=Option.bind_eq_some_iff.mp H
   obtain ⟨t4,A130,H⟩:=H
   replace H : ((laws_toPartS.f k l1).bind fun t7=>((spec_LeavesOf.f k t4 t7).bind fun t10=>((laws_toTree.f k l0_0).bind fun t13=>((laws_toPartS.f k l1).bind fun t17=>((impl_LeavesOf.f k t13 t17).bind fun t20=>((laws_eqLeafS.f k t20 t10).bind fun t23=>(if t23 = true then ((laws_toTree.f k l0_0).bind fun t24=>((laws_eqTree.f k t13 t24).bind fun t27=>(if t27 = true then ((laws_toPartS.f k l1).bind fun t28=>((laws_eqPartS.f k t17 t28).bind fun t31=>(if t31 = true then ((laws_markTree.f k t13 1).bind fun bt32=>((laws_markPartS.f k t17 bt32.1).bind fun bt34=>(if bt34.1 < 0 then (laws_FnExactLeavesOf.j0 k l1 t10 t20 true l0_0) else ((laws_eqLeafS.f k t20 t10).bind fun t36=>(laws_FnExactLeavesOf.j0 k l1 t10 t20 (!t36) l0_0))))) else (some false)))) else (some false)))) else (some false)))))))) = some r:=H
   have A13:=a0_ A130
   clear A130
   replace H:=Option.bind_eq_some_iff.mp H
   obtain ⟨t7,A140,H⟩:=H
   replace H : ((spec_LeavesOf.f k t4 t7).bind fun t10=>((laws_toTree.f k l0_0).bind fun t13=>((laws_toPartS.f k l1).bind fun t17=>((impl_LeavesOf.f k t13 t17).bind fun t20=>((laws_eqLeafS.f k t20 t10).bind fun t23=>(if t23 = true then ((laws_toTree.f k l0_0).bind fun t24=>((laws_eqTree.f k t13 t24).bind fun t27=>(if t27 = true then ((laws_toPartS.f k l1).bind fun t28=>((laws_eqPartS.f k t17 t28).bind fun t31=>(if t31 = true then ((laws_markTree.f k t13 1).bind fun bt32=>((laws_markPartS.f k t17 bt32.1).bind fun bt34=>(if bt34.1 < 0 then (laws_FnExactLeavesOf.j0 k l1 t10 t20 true l0_0) else ((laws_eqLeafS.f k t20 t10).bind fun t36=>(laws_FnExactLeavesOf.j0 k l1 t10 t20 (!t36) l0_0))))) else (some false)))) else (some false)))) else (some false))))))) = some r:=H
   have A14:=a0_ A140
   clear A140
   replace H:=Option.bind_eq_some_iff.mp H
   obtain ⟨t10,A150,H⟩:=H
   replace H : ((laws_toTree.f k l0_0).bind fun t13=>((laws_toPartS.f k l1).bind fun t17=>((impl_LeavesOf.f k t13 t17).bind fun t20=>((laws_eqLeafS.f k t20 t10).bind fun t23=>(if t23 = true then ((laws_toTree.f k l0_0).bind fun t24=>((laws_eqTree.f k t13 t24).bind fun t27=>(if t27 = true then ((laws_toPartS.f k l1).bind fun t28=>((laws_eqPartS.f k t17 t28).bind fun t31=>(if t31 = true then ((laws_markTree.f k t13 1).bind fun bt32=>((laws_markPartS.f k t17 bt32.1).bind fun bt34=>(if bt34.1 < 0 then (laws_FnExactLeavesOf.j0 k l1 t10 t20 true l0_0) else ((laws_eqLeafS.f k t20 t10).bind fun t36=>(laws_FnExactLeavesOf.j0 k l1 t10 t20 (!t36) l0_0))))) else (some false)))) else (some false)))) else (some false)))))) = some r:=H
   have A15:=a0_ A150
   clear A150
   replace H:=Option.bind_eq_some_iff.mp H
   obtain ⟨t13,A160,H⟩:=H
   replace H : ((laws_toPartS.f k l1).bind fun t17=>((impl_LeavesOf.f k t13 t17).bind fun t20=>((laws_eqLeafS.f k t20 t10).bind fun t23=>(if t23 = true then ((laws_toTree.f k l0_0).bind fun t24=>((laws_eqTree.f k t13 t24).bind fun t27=>(if t27 = true then ((laws_toPartS.f k l1).bind fun t28=>((laws_eqPartS.f k t17 t28).bind fun t31=>(if t31 = true then ((laws_markTree.f k t13 1).bind fun bt32=>((laws_markPartS.f k t17 bt32.1).bind fun bt34=>(if bt34.1 < 0 then (laws_FnExactLeavesOf.j0 k l1 t10 t20 true l0_0) else ((laws_eqLeafS.f k t20 t10).bind fun t36=>(laws_FnExactLeavesOf.j0 k l1 t10 t20 (!t36) l0_0))))) else (some false)))) else (some false)))) else (some false))))) = some r:=H
   have A16:=a0_ A160
   clear A160
   replace H:=Option.bind_eq_some_iff.mp H
   obtain ⟨t17,A170,H⟩:=H
   replace H : ((impl_LeavesOf.f k t13 t17).bind fun t20=>((laws_eqLeafS.f k t20 t10).bind fun t23=>(if t23 = true then ((laws_toTree.f k l0_0).bind fun t24=>((laws_eqTree.f k t13 t24).bind fun t27=>(if t27 = true then ((laws_toPartS.f k l1).bind fun t28=>((laws_eqPartS.f k t17 t28).bind fun t31=>(if t31 = true then ((laws_markTree.f k t13 1).bind fun bt32=>((laws_markPartS.f k t17 bt32.1).bind fun bt34=>(if bt34.1 < 0 then (laws_FnExactLeavesOf.j0 k l1 t10 t20 true l0_0) else ((laws_eqLeafS.f k t20 t10).bind fun t36=>(laws_FnExactLeavesOf.j0 k l1 t10 t20 (!t36) l0_0))))) else (some false)))) else (some false)))) else (some false)))) = some r:=H
   have A17:=a0_ A170
   clear A170
   replace H:=Option.bind_eq_some_iff.mp H
   obtain ⟨t20,A180,H⟩:=H
   replace H : ((laws_eqLeafS.f k t20 t10).bind fun t23=>(if t23 = true then ((laws_toTree.f k l0_0).bind fun t24=>((laws_eqTree.f k t13 t24).bind fun t27=>(if t27 = true then ((laws_toPartS.f k l1).bind fun t28=>((laws_eqPartS.f k t17 t28).bind fun t31=>(if t31 = true then ((laws_markTree.f k t13 1).bind fun bt32=>((laws_markPartS.f k t17 bt32.1).bind fun bt34=>(if bt34.1 < 0 then (laws_FnExactLeavesOf.j0 k l1 t10 t20 true l0_0) else ((laws_eqLeafS.f k t20 t10).bind fun t36=>(laws_FnExactLeavesOf.j0 k l1 t10 t20 (!t36) l0_0))))) else (some false)))) else (some false)))) else (some false))) = some r:=H
   have A18:=a0_ A180
   clear A180
   replace H:=Option.bind_eq_some_iff.mp H
   obtain ⟨t23,A190,H⟩:=H
   replace H : (if t23 = true then ((laws_toTree.f k l0_0).bind fun t24=>((laws_eqTree.f k t13 t24).bind fun t27=>(if t27 = true then ((laws_toPartS.f k l1).bind fun t28=>((laws_eqPartS.f k t17 t28).bind fun t31=>(if t31 = true then ((laws_markTree.f k t13 1).bind fun bt32=>((laws_markPartS.f k t17 bt32.1).bind fun bt34=>(if bt34.1 < 0 then (laws_FnExactLeavesOf.j0 k l1 t10 t20 true l0_0) else ((laws_eqLeafS.f k t20 t10).bind fun t36=>(laws_FnExactLeavesOf.j0 k l1 t10 t20 (!t36) l0_0))))) else (some false)))) else (some false)))) else (some false)) = some r:=H
   have A19:=a0_ A190
   clear A190
   by_cases c20 : t23 = true
   ·subst c20
    have H1 : ((laws_toTree.f k l0_0).bind fun t24=>((laws_eqTree.f k t13 t24).bind fun t27=>(if t27 = true then ((laws_toPartS.f k l1).bind fun t28=>((laws_eqPartS.f k t17 t28).bind fun t31=>(if t31 = true then ((laws_markTree.f k t13 1).bind fun bt32=>((laws_markPartS.f k t17 bt32.1).bind fun bt34=>(if bt34.1 < 0 then (laws_FnExactLeavesOf.j0 k l1 t10 t20 true l0_0) else ((laws_eqLeafS.f k t20 t10).bind fun t36=>(laws_FnExactLeavesOf.j0 k l1 t10 t20 (!t36) l0_0))))) else (some false)))) else (some false)))) = some r:=by rw [if_pos rfl] at H;exact H
    clear H
    have H:=H1
    clear H1
    replace H:=Option.bind_eq_some_iff.mp H
    obtain ⟨t24,A210,H⟩:=H
    replace H : ((laws_eqTree.f k t13 t24).bind fun t27=>(if t27 = true then ((laws_toPartS.f k l1).bind fun t28=>((laws_eqPartS.f k t17 t28).bind fun t31=>(if t31 = true then ((laws_markTree.f k t13 1).bind fun bt32=>((laws_markPartS.f k t17 bt32.1).bind fun bt34=>(if bt34.1 < 0 then (laws_FnExactLeavesOf.j0 k l1 t10 t20 true l0_0) else ((laws_eqLeafS.f k t20 t10).bind fun t36=>(laws_FnExactLeavesOf.j0 k l1 t10 t20 (!t36) l0_0))))) else (some false)))) else (some false))) = some r:=H
    have A21:=a0_ A210
    clear A210
    replace H:=Option.bind_eq_some_iff.mp H
    obtain ⟨t27,A220,H⟩:=H
    replace H : (if t27 = true then ((laws_toPartS.f k l1).bind fun t28=>((laws_eqPartS.f k t17 t28).bind fun t31=>(if t31 = true then ((laws_markTree.f k t13 1).bind fun bt32=>((laws_markPartS.f k t17 bt32.1).bind fun bt34=>(if bt34.1 < 0 then (laws_FnExactLeavesOf.j0 k l1 t10 t20 true l0_0) else ((laws_eqLeafS.f k t20 t10).bind fun t36=>(laws_FnExactLeavesOf.j0 k l1 t10 t20 (!t36) l0_0))))) else (some false)))) else (some false)) = some r:=H
    have A22:=a0_ A220
    clear A220
    by_cases c23 : t27 = true
    ·subst c23
     have H1 : ((laws_toPartS.f k l1).bind fun t28=>((laws_eqPartS.f k t17 t28).bind fun t31=>(if t31 = true then ((laws_markTree.f k t13 1).bind fun bt32=>((laws_markPartS.f k t17 bt32.1).bind fun bt34=>(if bt34.1 < 0 then (laws_FnExactLeavesOf.j0 k l1 t10 t20 true l0_0) else ((laws_eqLeafS.f k t20 t10).bind fun t36=>(laws_FnExactLeavesOf.j0 k l1 t10 t20 (!t36) l0_0))))) else (some false)))) = some r:=by rw [if_pos rfl] at H;exact H
     clear H
     have H:=H1
     clear H1
     replace H:=Option.bind_eq_some_iff.mp H
     obtain ⟨t28,A240,H⟩:=H
     replace H : ((laws_eqPartS.f k t17 t28).bind fun t31=>(if t31 = true then ((laws_markTree.f k t13 1).bind fun bt32=>((laws_markPartS.f k t17 bt32.1).bind fun bt34=>(if bt34.1 < 0 then (laws_FnExactLeavesOf.j0 k l1 t10 t20 true l0_0) else ((laws_eqLeafS.f k t20 t10).bind fun t36=>(laws_FnExactLeavesOf.j0 k l1 t10 t20 (!t36) l0_0))))) else (some false))) = some r:=H
     have A24:=a0_ A240
     clear A240
     replace H:=Option.bind_eq_some_iff.mp H
     obtain ⟨t31,A250,H⟩:=H
     replace H : (if t31 = true then ((laws_markTree.f k t13 1).bind fun bt32=>((laws_markPartS.f k t17 bt32.1).bind fun bt34=>(if bt34.1 < 0 then (laws_FnExactLeavesOf.j0 k l1 t10 t20 true l0_0) else ((laws_eqLeafS.f k t20 t10).bind fun t36=>(laws_FnExactLeavesOf.j0 k l1 t10 t20 (!t36) l0_0))))) else (some false)) = some r:=H
     have A25:=a0_ A250
     clear A250
     by_cases c26 : t31 = true
     ·subst c26
      have H1 : ((laws_markTree.f k t13 1).bind fun bt32=>((laws_markPartS.f k t17 bt32.1).bind fun bt34=>(if bt34.1 < 0 then (laws_FnExactLeavesOf.j0 k l1 t10 t20 true l0_0) else ((laws_eqLeafS.f k t20 t10).bind fun t36=>(laws_FnExactLeavesOf.j0 k l1 t10 t20 (!t36) l0_0))))) = some r:=by rw [if_pos rfl] at H;exact H
      clear H
      have H:=H1
      clear H1
      replace H:=Option.bind_eq_some_iff.mp H
      obtain ⟨⟨t32,t33⟩,A270,H⟩:=H
      replace H : ((laws_markPartS.f k t17 t32).bind fun bt34=>(if bt34.1 < 0 then (laws_FnExactLeavesOf.j0 k l1 t10 t20 true l0_0) else ((laws_eqLeafS.f k t20 t10).bind fun t36=>(laws_FnExactLeavesOf.j0 k l1 t10 t20 (!t36) l0_0)))) = some r:=H
      have A27:=a0_ A270
      clear A270
      replace H:=Option.bind_eq_some_iff.mp H
      obtain ⟨⟨t34,t35⟩,A280,H⟩:=H
      replace H : (if t34 < 0 then (laws_FnExactLeavesOf.j0 k l1 t10 t20 true l0_0) else ((laws_eqLeafS.f k t20 t10).bind fun t36=>(laws_FnExactLeavesOf.j0 k l1 t10 t20 (!t36) l0_0))) = some r:=H
      have A28:=a0_ A280
      clear A280
      have HC29:=a0_ H
      clear H
      go_enter Try.func5,Try.ntmps5
      try go_wp2_with (first | ((with_reducible refine gate_dst (N:=2) rfl ?_);refine box_event ?hg (N:=2) ?hd (cs:=#[.slice A0_0 l0_0.length c0_0]) (t:=24) ?hr ?_;(case hd=>rfl);(case hg=>rfl);(case hr=>first | (go_simp;done) | (go_simp;rfl));intro gb1 hg w30 hbox hb;have n0_:=a0_ (below_step hb_ hb);have n1_:=a0_ (hbox);have n2_:=a0_ ((by rw [hg];exact (below_size hb_) : w.heap.size ≤ gb1));have n3_:=a0_ ((by rw [hg];exact (below_size hb_) : w.heap.size ≤ gb1));clear HB;have HB:=n0_;have BK1:=n1_;have GW1:=n2_;have GE1:=n3_;clear n0_ n1_ n2_ n3_;clear hb hbox hg;have hcz31_0 : w30.cell? ⟨gb1,0,none⟩ = some (.slice A0_0 l0_0.length c0_0):=(blk_cell BK1.out 0).trans rfl;have hfz31_0:=blk_frozen BK1.out 0) | ((with_reducible refine gate_callee (f:=10) rfl ?_);refine goesL_ (some 16) rfl rfl Try.func10 (by kernel_rfl) rfl #[.agg #[.slice A0_0 l0_0.length c0_0],.int .i64 1048576] rfl lm_ ?_;(with_reducible refine (laws_szTree.calls k _ _ l0_0 1048576 t2 _ ?side1 ?side2 A3.out).mono ?_);(case side1=>exact cc_ (Kd.C_below HR0_0.out HB.out));(case side2=>exact HC0_0.out);rintro e w32 ⟨rfl,hb⟩;refine ⟨_,rfl,?_⟩;have n0_:=a0_ (blk_below (g:=gb1) (o:=.cells #[.slice A0_0 l0_0.length c0_0] 24 (0,0)) (bb_ BK1.out) hb);have n1_:=a0_ (below_step hb_ hb);clear BK1 HB;have BK1:=n0_;have HB:=n1_;clear n0_ n1_;(try clear hb);(try clear hb2);(try clear hk);(try clear hi)) | ((with_reducible refine gate_callee (f:=11) rfl ?_);refine goesL_ (some 21) rfl rfl Try.func11 (by kernel_rfl) rfl #[.slice A1 l1.length c1,.int .i64 t2] rfl lm_ ?_;(with_reducible refine (laws_szPartS.calls _ _ l1 t2 t3 _ ?side1 ?side2 A8.out).mono ?_);(case side1=>exact cc_ (Kd.C_below HR1.out HB.out));(case side2=>exact HC1.out);rintro e w' ⟨rfl,⟨nd,rfl⟩⟩;refine ⟨_,rfl,?_⟩;(try (rw [drewN_self w32];generalize hq_ : World.drewN w32 _ = w32;have n0_ : Aside0 (w32.heap[gb1]? = some (.cells #[.slice A0_0 l0_0.length c0_0] 24 (0,0))):=⟨by rw [← hq_];exact (bb_ BK1.out)⟩;have n1_ : Aside0 (Below w.heap.size w w32):=⟨by rw [← hq_];exact hb_⟩;clear BK1 HB hq_;have BK1:=n0_;have HB:=n1_;clear n0_ n1_));have hcz33_0 : w32.cell? ⟨gb1,0,none⟩ = some (.slice A0_0 l0_0.length c0_0):=(blk_cell BK1.out 0).trans rfl;have hfz33_0:=blk_frozen BK1.out 0) | ((with_reducible refine gate_callee (f:=13) rfl ?_);refine goesL_ (some 25) rfl rfl Try.func13 (by kernel_rfl) rfl #[.agg #[.slice A0_0 l0_0.length c0_0]] rfl lm_ ?_;(with_reducible refine (laws_toTree.calls k _ _ l0_0 t4 _ ?side1 ?side2 A13.out).mono ?_);(case side1=>exact cc_ (Kd.C_below HR0_0.out HB.out));(case side2=>exact HC0_0.out);rintro e w34 ⟨v5,rfl,ho0,hb⟩;refine ⟨_,rfl,?_⟩;have n0_:=a0_ (Kd.R_lower ho0 (below_size hb_));have n1_:=a0_ (blk_below (g:=gb1) (o:=.cells #[.slice A0_0 l0_0.length c0_0] 24 (0,0)) (bb_ BK1.out) hb);have n2_:=a0_ (below_step hb_ hb);clear BK1 HB;have HO6:=n0_;have BK1:=n1_;have HB:=n2_;clear n0_ n1_ n2_;(try clear hb);(try clear hb2);(try clear hk);(try clear hi);(try clear ho0)) | ((with_reducible refine gate_callee (f:=14) rfl ?_);refine goesL_ (some 27) rfl rfl Try.func14 (by kernel_rfl) rfl #[.slice A1 l1.length c1] rfl lm_ ?_;(with_reducible refine (laws_toPartS.calls k _ _ l1 t7 _ ?side1 ?side2 A14.out).mono ?_);(case side1=>exact cc_ (Kd.C_below HR1.out HB.out));(case side2=>exact HC1.out);rintro e w35 ⟨v8,rfl,ho0,hb⟩;refine ⟨_,rfl,?_⟩;have n0_:=a0_ (Kd.R_below (rr_ HO6.out) hb);have n1_:=a0_ (Kd.R_lower ho0 (below_size hb_));have n2_:=a0_ (blk_below (g:=gb1) (o:=.cells #[.slice A0_0 l0_0.length c0_0] 24 (0,0)) (bb_ BK1.out) hb);have n3_:=a0_ (below_step hb_ hb);clear HO6 BK1 HB;have HO6:=n0_;have HO9:=n1_;have BK1:=n2_;have HB:=n3_;clear n0_ n1_ n2_ n3_;(try clear hb);(try clear hb2);(try clear hk);(try clear hi);(try clear ho0);obtain ⟨Ao36,co36,eo36⟩:=Kd.R_slice HO6.out;subst eo36;obtain ⟨Ao37,co37,eo37⟩:=Kd.R_slice HO9.out;subst eo37) | ((with_reducible refine gate_callee (f:=23) rfl ?_);refine goesL_ (some 28) rfl rfl Try.func23 (by kernel_rfl) rfl #[.agg #[.slice Ao36 t4.length co36],.slice Ao37 t7.length co37] rfl lm_ ?_;(with_reducible refine (spec_LeavesOf.calls k _ _ t4 _ _ t7 t10 _ ?side1 ?side2 ?side3 ?side4 A15.out).mono ?_);(case side1=>repeat (first | exact (Kd.R_reads' HO6.out).2.2 | (with_reducible refine Kd.C_alloc ?_ _) | (with_reducible refine Kd.C_drewN ?_ _) | (with_reducible refine Kd.C_drew ?_)));(case side2=>exact (Kd.R_reads' HO6.out).2.1);(case side3=>repeat (first | exact (Kd.R_reads' HO9.out).2.2 | (with_reducible refine Kd.C_alloc ?_ _) | (with_reducible refine Kd.C_drewN ?_ _) | (with_reducible refine Kd.C_drew ?_)));(case side4=>exact (Kd.R_reads' HO9.out).2.1);rintro e w38 ⟨v11,rfl,ho0,hb⟩;refine ⟨_,rfl,?_⟩;have n0_:=a0_ (Kd.R_below (rr_ HO6.out) hb);have n1_:=a0_ (Kd.R_below (rr_ HO9.out) hb);have n2_:=a0_ (Kd.R_lower ho0 (below_size hb_));have n3_:=a0_ (blk_below (g:=gb1) (o:=.cells #[.slice A0_0 l0_0.length c0_0] 24 (0,0)) (bb_ BK1.out) hb);have n4_:=a0_ (below_step hb_ hb);clear HO6 HO9;clear BK1 HB;have HO6:=n0_;have HO9:=n1_;have HO12:=n2_;have BK1:=n3_;have HB:=n4_;clear n0_ n1_ n2_ n3_ n4_;(try clear hb);(try clear hb2);(try clear hk);(try clear hi);(try clear ho0);have hcz39_0 : w38.cell? ⟨gb1,0,none⟩ = some (.slice A0_0 l0_0.length c0_0):=(blk_cell BK1.out 0).trans rfl;have hfz39_0:=blk_frozen BK1.out 0) | ((with_reducible refine gate_callee (f:=13) rfl ?_);refine goesL_ (some 30) rfl rfl Try.func13 (by kernel_rfl) rfl #[.agg #[.slice A0_0 l0_0.length c0_0]] rfl lm_ ?_;(with_reducible refine (laws_toTree.calls k _ _ l0_0 t13 _ ?side1 ?side2 A16.out).mono ?_);(case side1=>exact cc_ (Kd.C_below HR0_0.out HB.out));(case side2=>exact HC0_0.out);rintro e w40 ⟨v14,rfl,ho0,hb⟩;refine ⟨_,rfl,?_⟩;have n0_:=a0_ (Kd.R_elder' (rr_ HO6.out) (Kd.R_base ho0) hb);have n1_:=a0_ (Kd.R_below (rr_ HO9.out) hb);have n2_:=a0_ (Kd.R_below (rr_ HO12.out) hb);have n3_:=a0_ (Kd.R_lower (Kd.R_new' ho0 (Kd.R_lt (rr_ HO6.out))) (below_size hb_));have n4_:=a0_ (blk_below (g:=gb1) (o:=.cells #[.slice A0_0 l0_0.length c0_0] 24 (0,0)) (bb_ BK1.out) hb);have n5_:=a0_ (below_step hb_ hb);clear HO6 HO9;clear HO12 BK1 HB;have HO6:=n0_;have HO9:=n1_;have HO12:=n2_;have HO15:=n3_;have BK1:=n4_;have HB:=n5_;clear n0_ n1_ n2_ n3_ n4_ n5_;(try clear hb);(try clear hb2);(try clear hk);(try clear hi);(try clear ho0)) | ((with_reducible refine gate_dst (N:=7) rfl ?_);refine box_event ?hg (N:=7) ?hd (cs:=#[.slice none 0 0]) (t:=31) ?hr ?_;(case hd=>rfl);(case hg=>rfl);(case hr=>first | (go_simp;done) | (go_simp;rfl));intro gb16 hg w41 hbox hb;have n0_:=a0_ (Kd.R_below (rr_ HO6.out) hb);have n1_:=a0_ (Kd.R_below (rr_ HO9.out) hb);have n2_:=a0_ (Kd.R_below (rr_ HO12.out) hb);have n3_:=a0_ (Kd.R_below (rr_ HO15.out) hb);have n4_:=a0_ (blk_below (g:=gb1) (o:=.cells #[.slice A0_0 l0_0.length c0_0] 24 (0,0)) (bb_ BK1.out) hb);have n5_:=a0_ (below_step hb_ hb);have n6_:=a0_ (hbox);have n7_:=a0_ ((by rw [hg];exact (below_size hb_) : w.heap.size ≤ gb16));have n8_:=a0_ ((by rw [hg];exact (below_size hb_) : w.heap.size ≤ gb16));have n9_:=a0_ ((by rw [hg];exact Nat.ne_of_lt (blk_lt (g:=gb1) (o:=.cells #[.slice A0_0 l0_0.length c0_0] 24 (0,0)) (bb_ BK1.out)) : gb1 ≠ gb16));have n10_:=a0_ ((by rw [hg];exact Nat.ne_of_gt (blk_lt (g:=gb1) (o:=.cells #[.slice A0_0 l0_0.length c0_0] 24 (0,0)) (bb_ BK1.out)) : gb16 ≠ gb1));clear HO6 HO9;clear HO12 HO15;clear BK1 HB;have HO6:=n0_;have HO9:=n1_;have HO12:=n2_;have HO15:=n3_;have BK1:=n4_;have HB:=n5_;have BK16:=n6_;have GW16:=n7_;have GE16:=n8_;have NB1_16:=n9_;have NB16_1:=n10_;clear n0_ n1_ n2_ n3_ n4_ n5_ n6_ n7_ n8_ n9_ n10_;clear hb hbox hg;obtain ⟨Ao42,co42,eo42⟩:=Kd.R_slice HO15.out;subst eo42;have hnb43:=NB16_1.out;have hnc43:=NB1_16.out;have hcz44_0 : w41.cell? ⟨gb16,0,none⟩ = some (.slice none 0 0):=(blk_cell BK16.out 0).trans rfl;have hfz44_0:=blk_frozen BK16.out 0) | ((with_reducible refine gate_callee (f:=14) rfl ?_);refine goesL_ (some 32) rfl rfl Try.func14 (by kernel_rfl) rfl #[.slice A1 l1.length c1] rfl lm_ ?_;(with_reducible refine (laws_toPartS.calls k _ _ l1 t17 _ ?side1 ?side2 A17.out).mono ?_);(case side1=>exact Kd.C_below HR1.out hb_);(case side2=>exact HC1.out);rintro e w45 ⟨v18,rfl,ho0,hb⟩;refine ⟨_,rfl,?_⟩;have n0_:=a0_ (Kd.R_below (by (with_reducible repeat (first | apply Kd.R_alloc | apply Kd.R_drewN | apply Kd.R_drew));exact (Kd.R_mono (Kd.R_far (p:=⟨gb16,0,none⟩) (Kd.R_types HO6.out BK16.out (by decide)) (fun _ hk=>hk.2) (.slice Ao42 t13.length co42)) (fun _ h_=>h_.1))) hb);have n1_:=a0_ (Kd.R_elder' (by (with_reducible repeat (first | apply Kd.R_alloc | apply Kd.R_drewN | apply Kd.R_drew));exact (Kd.R_mono (Kd.R_far (p:=⟨gb16,0,none⟩) (Kd.R_types HO9.out BK16.out (by decide)) (fun _ hk=>hk.2) (.slice Ao42 t13.length co42)) (fun _ h_=>h_.1))) (Kd.R_base ho0) hb);have n2_:=a0_ (Kd.R_below (by (with_reducible repeat (first | apply Kd.R_alloc | apply Kd.R_drewN | apply Kd.R_drew));exact (Kd.R_mono (Kd.R_far (p:=⟨gb16,0,none⟩) (Kd.R_types HO12.out BK16.out (by decide)) (fun _ hk=>hk.2) (.slice Ao42 t13.length co42)) (fun _ h_=>h_.1))) hb);have n3_:=a0_ (Kd.R_below (by (with_reducible repeat (first | apply Kd.R_alloc | apply Kd.R_drewN | apply Kd.R_drew));exact (Kd.R_mono (Kd.R_far (p:=⟨gb16,0,none⟩) (Kd.R_types HO15.out BK16.out (by decide)) (fun _ hk=>hk.2) (.slice Ao42 t13.length co42)) (fun _ h_=>h_.1))) hb);have n4_:=a0_ (Kd.R_lower (Kd.R_new' ho0 (Kd.R_lt (by (with_reducible repeat (first | apply Kd.R_alloc | apply Kd.R_drewN | apply Kd.R_drew));exact (Kd.R_mono (Kd.R_far (p:=⟨gb16,0,none⟩) (Kd.R_types HO9.out BK16.out (by decide)) (fun _ hk=>hk.2) (.slice Ao42 t13.length co42)) (fun _ h_=>h_.1))))) (below_size hb_));have n5_:=a0_ (blk_below (g:=gb1) (o:=.cells #[.slice A0_0 l0_0.length c0_0] 24 (0,0)) (by (with_reducible repeat (first | refine blk_drewN ?_ _ | refine blk_drew ?_ | refine blk_alloc ?_ _));refine blk_far ?_ NB1_16.out _;(with_reducible repeat (first | refine blk_drewN ?_ _ | refine blk_drew ?_ | refine blk_alloc ?_ _));exact BK1.out) hb);have n6_:=a0_ (blk_below (g:=gb16) (o:=.cells #[.slice Ao42 t13.length co42] 31 (0,0)) (by (with_reducible repeat (first | refine blk_drewN ?_ _ | refine blk_drew ?_ | refine blk_alloc ?_ _));refine blk_put (cs:=#[.slice none 0 0]) ?_ 0 _ rfl;(with_reducible repeat (first | refine blk_drewN ?_ _ | refine blk_drew ?_ | refine blk_alloc ?_ _));exact BK16.out) hb);have n7_:=a0_ (below_step hb_ hb);clear HO6 HO9;clear HO12 HO15;clear BK1 BK16 HB;have HO6:=n0_;have HO9:=n1_;have HO12:=n2_;have HO15:=n3_;have HO19:=n4_;have BK1:=n5_;have BK16:=n6_;have HB:=n7_;clear n0_ n1_ n2_ n3_ n4_ n5_ n6_ n7_;(try clear hb);(try clear hb2);(try clear hk);(try clear hi);(try clear ho0);have hcz46_0 : w45.cell? ⟨gb16,0,none⟩ = some (.slice Ao42 t13.length co42):=(blk_cell BK16.out 0).trans rfl;have hfz46_0:=blk_frozen BK16.out 0;obtain ⟨Ao47,co47,eo47⟩:=Kd.R_slice HO19.out;subst eo47) | ((with_reducible refine gate_callee (f:=24) rfl ?_);refine goesL_ (some 35) rfl rfl Try.func24 (by kernel_rfl) rfl #[.agg #[.slice Ao42 t13.length co42],.slice Ao47 t17.length co47] rfl lm_ ?_;(with_reducible refine (impl_LeavesOf.calls k _ _ t13 _ _ t17 t20 _ ?side1 ?side2 ?side3 ?side4 A18.out).mono ?_);(case side1=>repeat (first | exact (Kd.R_reads' HO15.out).2.2 | (with_reducible refine Kd.C_alloc ?_ _) | (with_reducible refine Kd.C_drewN ?_ _) | (with_reducible refine Kd.C_drew ?_)));(case side2=>exact (Kd.R_reads' HO15.out).2.1);(case side3=>repeat (first | exact (Kd.R_reads' HO19.out).2.2 | (with_reducible refine Kd.C_alloc ?_ _) | (with_reducible refine Kd.C_drewN ?_ _) | (with_reducible refine Kd.C_drew ?_)));(case side4=>exact (Kd.R_reads' HO19.out).2.1);rintro e w48 ⟨v21,rfl,ho0,hb⟩;refine ⟨_,rfl,?_⟩;have n0_:=a0_ (Kd.R_below (rr_ HO6.out) hb);have n1_:=a0_ (Kd.R_below (rr_ HO9.out) hb);have n2_:=a0_ (Kd.R_elder' (rr_ HO12.out) (Kd.R_base ho0) hb);have n3_:=a0_ (Kd.R_below (rr_ HO15.out) hb);have n4_:=a0_ (Kd.R_below (rr_ HO19.out) hb);have n5_:=a0_ (Kd.R_lower (Kd.R_new' ho0 (Kd.R_lt (rr_ HO12.out))) (below_size hb_));have n6_:=a0_ (blk_below (g:=gb1) (o:=.cells #[.slice A0_0 l0_0.length c0_0] 24 (0,0)) (bb_ BK1.out) hb);have n7_:=a0_ (blk_below (g:=gb16) (o:=.cells #[.slice Ao42 t13.length co42] 31 (0,0)) (bb_ BK16.out) hb);have n8_:=a0_ (below_step hb_ hb);clear HO6 HO9;clear HO12 HO15;clear HO19 BK1;clear BK16 HB;have HO6:=n0_;have HO9:=n1_;have HO12:=n2_;have HO15:=n3_;have HO19:=n4_;have HO22:=n5_;have BK1:=n6_;have BK16:=n7_;have HB:=n8_;clear n0_ n1_ n2_ n3_ n4_ n5_ n6_ n7_ n8_;(try clear hb);(try clear hb2);(try clear hk);(try clear hi);(try clear ho0);obtain ⟨Ao49,co49,eo49⟩:=Kd.R_slice HO22.out;subst eo49;obtain ⟨Ao50,co50,eo50⟩:=Kd.R_slice HO12.out;subst eo50) | ((with_reducible refine gate_callee (f:=25) rfl ?_);refine goesL_ (some 38) rfl rfl Try.func25 (by kernel_rfl) rfl #[.slice Ao49 t20.length co49,.slice Ao50 t10.length co50] rfl lm_ ?_;(with_reducible refine (laws_eqLeafS.calls k _ _ t20 _ _ t10 true _ ?side1 ?side2 ?side3 ?side4 A19.out).mono ?_);(case side1=>repeat (first | exact (Kd.R_reads' HO22.out).2.2 | (with_reducible refine Kd.C_alloc ?_ _) | (with_reducible refine Kd.C_drewN ?_ _) | (with_reducible refine Kd.C_drew ?_)));(case side2=>exact (Kd.R_reads' HO22.out).2.1);(case side3=>repeat (first | exact (Kd.R_reads' HO12.out).2.2 | (with_reducible refine Kd.C_alloc ?_ _) | (with_reducible refine Kd.C_drewN ?_ _) | (with_reducible refine Kd.C_drew ?_)));(case side4=>exact (Kd.R_reads' HO12.out).2.1);rintro e w51 ⟨rfl,hb⟩;refine ⟨_,rfl,?_⟩;have n0_:=a0_ (Kd.R_below (rr_ HO6.out) hb);have n1_:=a0_ (Kd.R_below (rr_ HO9.out) hb);have n2_:=a0_ (Kd.R_below (rr_ HO12.out) hb);have n3_:=a0_ (Kd.R_below (rr_ HO15.out) hb);have n4_:=a0_ (Kd.R_below (rr_ HO19.out) hb);have n5_:=a0_ (Kd.R_below (rr_ HO22.out) hb);have n6_:=a0_ (blk_below (g:=gb1) (o:=.cells #[.slice A0_0 l0_0.length c0_0] 24 (0,0)) (bb_ BK1.out) hb);have n7_:=a0_ (blk_below (g:=gb16) (o:=.cells #[.slice Ao42 t13.length co42] 31 (0,0)) (bb_ BK16.out) hb);have n8_:=a0_ (below_step hb_ hb);clear HO6 HO9;clear HO12 HO15;clear HO19 HO22;clear BK1 BK16 HB;have HO6:=n0_;have HO9:=n1_;have HO12:=n2_;have HO15:=n3_;have HO19:=n4_;have HO22:=n5_;have BK1:=n6_;have BK16:=n7_;have HB:=n8_;clear n0_ n1_ n2_ n3_ n4_ n5_ n6_ n7_ n8_;(try clear hb);(try clear hb2);(try clear hk);(try clear hi)))
      have n0_:=a0_ (Kd.R_drew HO6.out)
      have n1_:=a0_ (Kd.R_drew HO9.out)
      have n2_:=a0_ (Kd.R_drew HO12.out)
      have n3_:=a0_ (Kd.R_drew HO15.out)
      have n4_:=a0_ (Kd.R_drew HO19.out)
      have n5_:=a0_ (Kd.R_drew HO22.out)
      have n6_:=a0_ (blk_drew BK1.out)
      have n7_:=a0_ (blk_drew BK16.out)
      have n8_:=a0_ (below_drew1 HB.out)
      clear HO6
      clear HO9
      clear HO12
      clear HO15
      clear HO19
      clear HO22
      clear BK1
      clear BK16
      clear HB
      have HO6:=n0_
      have HO9:=n1_
      have HO12:=n2_
      have HO15:=n3_
      have HO19:=n4_
      have HO22:=n5_
      have BK1:=n6_
      have BK16:=n7_
      have HB:=n8_
      clear n0_ n1_ n2_ n3_ n4_ n5_ n6_ n7_ n8_
      refine start_ (n:=5) (S:=fun w'=>w'.cell? ⟨gb16,0,none⟩ = some (.slice Ao42 t13.length co42) ∧ w'.cell? ⟨gb1,0,none⟩ = some (.slice A0_0 l0_0.length c0_0)) (ds:=[]) #[false,false,false,false,false] (by kernel_rfl) rfl rfl ⟨(blk_cell BK16.out 0).trans rfl,(blk_cell BK1.out 0).trans rfl⟩ (fun hHeld=>?_)
      generalize w51.drew = w52 at HO6 HO9 HO12 HO15 HO19 HO22 BK1 BK16 HB hHeld ⊢
      refine take_ (i:=0) (N:=some 40) (v:=?_) (a':=?_) #[true,false,false,false,false] rfl rfl (by kernel_rfl) (fun _ _ _ h=>h) (Or.inl ⟨by rfl,?_⟩) hHeld ?_ ?_
      rotate_left
      ·rintro w' ⟨s0,s1⟩
       go_simp
       with_reducible rfl
      rotate_left
      ·simp only [Act.put,List.setIfInBounds_toArray,List.set_cons_zero,List.set_cons_succ,i64_w,i32_w]
       rfl
      refine take_ (i:=1) (N:=some 41) (v:=?_) (a':=?_) #[true,true,false,false,false] rfl rfl (by kernel_rfl) (fun _ _ _ h=>h) (Or.inl ⟨by rfl,?_⟩) hHeld ?_ ?_
      rotate_left
      ·rintro w' ⟨s0,s1⟩
       go_simp
       with_reducible rfl
      rotate_left
      ·simp only [Act.put,List.setIfInBounds_toArray,List.set_cons_zero,List.set_cons_succ,i64_w,i32_w]
       rfl
      refine one_ (i:=2) (N:=some 42) #[true,true,true,false,false] rfl rfl (by kernel_rfl) (by decide) (fun K hK=>?_)
      refine goes_ Try.func13 (by kernel_rfl) rfl #[.agg #[.slice A0_0 l0_0.length c0_0]] (by rfl) rfl rfl lm_ ?_
      with_reducible refine (laws_toTree.calls k _ _ l0_0 t24 _ ?side1 ?side2 A21.out).mono ?_
      (case side1=>exact cc_ (Kd.C_below HR0_0.out HB.out))
      (case side2=>exact HC0_0.out)
      rintro e w53 ⟨v25,rfl,ho0,hb⟩
      refine ⟨_,rfl,?_⟩
      have n0_:=a0_ (Kd.R_elder' (rr_ HO6.out) (Kd.R_base ho0) hb)
      have n1_:=a0_ (Kd.R_below (rr_ HO9.out) hb)
      have n2_:=a0_ (Kd.R_below (rr_ HO12.out) hb)
      have n3_:=a0_ (Kd.R_elder' (rr_ HO15.out) (Kd.R_base ho0) hb)
      have n4_:=a0_ (Kd.R_below (rr_ HO19.out) hb)
      have n5_:=a0_ (Kd.R_below (rr_ HO22.out) hb)
      have n6_:=a0_ (Kd.R_lower (Kd.R_new' (Kd.R_new' ho0 (Kd.R_lt (rr_ HO6.out))) (Kd.R_lt (rr_ HO15.out))) (below_size hb_))
      have n7_:=a0_ (blk_below (g:=gb1) (o:=.cells #[.slice A0_0 l0_0.length c0_0] 24 (0,0)) (bb_ BK1.out) hb)
      have n8_:=a0_ (blk_below (g:=gb16) (o:=.cells #[.slice Ao42 t13.length co42] 31 (0,0)) (bb_ BK16.out) hb)
      have n9_:=a0_ (below_step hb_ hb)
      clear HO6
      clear HO9
      clear HO12
      clear HO15
      clear HO19
      clear HO22
      clear BK1
      clear BK16
      clear HB
      have HO6:=n0_
      have HO9:=n1_
      have HO12:=n2_
      have HO15:=n3_
      have HO19:=n4_
      have HO22:=n5_
      have HO26:=n6_
      have BK1:=n7_
      have BK16:=n8_
      have HB:=n9_
      clear n0_ n1_ n2_ n3_ n4_ n5_ n6_ n7_ n8_ n9_
      (try clear hb)
      (try clear hb2)
      (try clear hk)
      (try clear hi)
      (try clear ho0)
      obtain ⟨Ao54,co54,eo54⟩:=Kd.R_slice HO26.out
      (first | subst eo54 | (injection eo54 with f1_ f2_ f3_;have f4_:=f1_.symm;have f5_:=f3_.symm;clear f1_ f2_ f3_;subst f4_;subst f5_))
      refine hK.out _ _ ⟨(blk_cell BK16.out 0).trans rfl,(blk_cell BK1.out 0).trans rfl⟩ (fun hHeld=>?_)
      clear hK K
      refine norm_ (a':=?_) ?_ ?_
      rotate_left
      ·show Act.put _ (some 42) _ = _
       simp only [Act.put,List.setIfInBounds_toArray,List.set_cons_zero,List.set_cons_succ,i64_w,i32_w]
       rfl
      refine one_ (i:=3) (N:=some 43) #[true,true,true,true,false] rfl rfl (by kernel_rfl) (by decide) (fun K hK=>?_)
      refine goes_ Try.func16 (by kernel_rfl) rfl #[.agg #[.slice Ao42 t13.length co42],.agg #[.slice Ao54 t24.length co54]] (by rfl) rfl rfl lm_ ?_
      with_reducible refine (laws_eqTree.calls k _ _ t13 _ _ t24 true _ ?side1 ?side2 ?side3 ?side4 A22.out).mono ?_
      (case side1=>repeat (first | exact (Kd.R_reads' HO15.out).2.2 | (with_reducible refine Kd.C_alloc ?_ _) | (with_reducible refine Kd.C_drewN ?_ _) | (with_reducible refine Kd.C_drew ?_)))
      (case side2=>exact (Kd.R_reads' HO15.out).2.1)
      (case side3=>repeat (first | exact (Kd.R_reads' HO26.out).2.2 | (with_reducible refine Kd.C_alloc ?_ _) | (with_reducible refine Kd.C_drewN ?_ _) | (with_reducible refine Kd.C_drew ?_)))
      (case side4=>exact (Kd.R_reads' HO26.out).2.1)
      rintro e w55 ⟨rfl,hb⟩
      refine ⟨_,rfl,?_⟩
      have n0_:=a0_ (Kd.R_below (rr_ HO6.out) hb)
      have n1_:=a0_ (Kd.R_below (rr_ HO9.out) hb)
      have n2_:=a0_ (Kd.R_below (rr_ HO12.out) hb)
      have n3_:=a0_ (Kd.R_below (rr_ HO15.out) hb)
      have n4_:=a0_ (Kd.R_below (rr_ HO19.out) hb)
      have n5_:=a0_ (Kd.R_below (rr_ HO22.out) hb)
      have n6_:=a0_ (Kd.R_below (rr_ HO26.out) hb)
      have n7_:=a0_ (blk_below (g:=gb1) (o:=.cells #[.slice A0_0 l0_0.length c0_0] 24 (0,0)) (bb_ BK1.out) hb)
      have n8_:=a0_ (blk_below (g:=gb16) (o:=.cells #[.slice Ao42 t13.length co42] 31 (0,0)) (bb_ BK16.out) hb)
      have n9_:=a0_ (below_step hb_ hb)
      clear HO6
      clear HO9
      clear HO12
      clear HO15
      clear HO19
      clear HO22
      clear HO26
      clear BK1
      clear BK16
      clear HB
      have HO6:=n0_
      have HO9:=n1_
      have HO12:=n2_
      have HO15:=n3_
      have HO19:=n4_
      have HO22:=n5_
      have HO26:=n6_
      have BK1:=n7_
      have BK16:=n8_
      have HB:=n9_
      clear n0_ n1_ n2_ n3_ n4_ n5_ n6_ n7_ n8_ n9_
      (try clear hb)
      (try clear hb2)
      (try clear hk)
      (try clear hi)
      refine hK.out _ _ ⟨(blk_cell BK16.out 0).trans rfl,(blk_cell BK1.out 0).trans rfl⟩ (fun hHeld=>?_)
      clear hK K
      refine norm_ (a':=?_) ?_ ?_
      rotate_left
      ·show Act.put _ (some 43) _ = _
       simp only [Act.put,List.setIfInBounds_toArray,List.set_cons_zero,List.set_cons_succ,i64_w,i32_w]
       rfl
      refine pure_ (i:=4) (N:=some 44) (v:=?_) (a':=?_) #[true,true,true,true,true] rfl rfl (by kernel_rfl) (fun _ _ _ h=>h) (Or.inl ⟨by rfl,?_⟩) ?_ ?_
      rotate_left
      ·intro w'
       go_simp
       with_reducible rfl
      rotate_left
      ·simp only [Act.put,List.setIfInBounds_toArray,List.set_cons_zero,List.set_cons_succ,i64_w,i32_w]
       rfl
      refine done_ (by kernel_rfl) ?_
      go_upto_region 21 with (first | ((with_reducible refine gate_callee (f:=14) rfl ?_);refine goesL_ (some 47) rfl rfl Try.func14 (by kernel_rfl) rfl #[.slice A1 l1.length c1] rfl lm_ ?_;(with_reducible refine (laws_toPartS.calls k _ _ l1 t28 _ ?side1 ?side2 A24.out).mono ?_);(case side1=>exact cc_ (Kd.C_below HR1.out HB.out));(case side2=>exact HC1.out);rintro e w56 ⟨v29,rfl,ho0,hb⟩;refine ⟨_,rfl,?_⟩;have n0_:=a0_ (Kd.R_below (rr_ HO6.out) hb);have n1_:=a0_ (Kd.R_elder' (rr_ HO9.out) (Kd.R_base ho0) hb);have n2_:=a0_ (Kd.R_below (rr_ HO12.out) hb);have n3_:=a0_ (Kd.R_below (rr_ HO15.out) hb);have n4_:=a0_ (Kd.R_elder' (rr_ HO19.out) (Kd.R_base ho0) hb);have n5_:=a0_ (Kd.R_below (rr_ HO22.out) hb);have n6_:=a0_ (Kd.R_below (rr_ HO26.out) hb);have n7_:=a0_ (Kd.R_lower (Kd.R_new' (Kd.R_new' ho0 (Kd.R_lt (rr_ HO9.out))) (Kd.R_lt (rr_ HO19.out))) (below_size hb_));have n8_:=a0_ (blk_below (g:=gb1) (o:=.cells #[.slice A0_0 l0_0.length c0_0] 24 (0,0)) (bb_ BK1.out) hb);have n9_:=a0_ (blk_below (g:=gb16) (o:=.cells #[.slice Ao42 t13.length co42] 31 (0,0)) (bb_ BK16.out) hb);have n10_:=a0_ (below_step hb_ hb);clear HO6 HO9;clear HO12 HO15;clear HO19 HO22;clear HO26 BK1;clear BK16 HB;have HO6:=n0_;have HO9:=n1_;have HO12:=n2_;have HO15:=n3_;have HO19:=n4_;have HO22:=n5_;have HO26:=n6_;have HO30:=n7_;have BK1:=n8_;have BK16:=n9_;have HB:=n10_;clear n0_ n1_ n2_ n3_ n4_ n5_ n6_ n7_ n8_ n9_ n10_;(try clear hb);(try clear hb2);(try clear hk);(try clear hi);(try clear ho0);obtain ⟨Ao57,co57,eo57⟩:=Kd.R_slice HO30.out;subst eo57) | ((with_reducible refine gate_callee (f:=17) rfl ?_);refine goesL_ (some 48) rfl rfl Try.func17 (by kernel_rfl) rfl #[.slice Ao47 t17.length co47,.slice Ao57 t28.length co57] rfl lm_ ?_;(with_reducible refine (laws_eqPartS.calls k _ _ t17 _ _ t28 true _ ?side1 ?side2 ?side3 ?side4 A25.out).mono ?_);(case side1=>repeat (first | exact (Kd.R_reads' HO19.out).2.2 | (with_reducible refine Kd.C_alloc ?_ _) | (with_reducible refine Kd.C_drewN ?_ _) | (with_reducible refine Kd.C_drew ?_)));(case side2=>exact (Kd.R_reads' HO19.out).2.1);(case side3=>repeat (first | exact (Kd.R_reads' HO30.out).2.2 | (with_reducible refine Kd.C_alloc ?_ _) | (with_reducible refine Kd.C_drewN ?_ _) | (with_reducible refine Kd.C_drew ?_)));(case side4=>exact (Kd.R_reads' HO30.out).2.1);rintro e w58 ⟨rfl,hb⟩;refine ⟨_,rfl,?_⟩;have n0_:=a0_ (Kd.R_below (rr_ HO6.out) hb);have n1_:=a0_ (Kd.R_below (rr_ HO9.out) hb);have n2_:=a0_ (Kd.R_below (rr_ HO12.out) hb);have n3_:=a0_ (Kd.R_below (rr_ HO15.out) hb);have n4_:=a0_ (Kd.R_below (rr_ HO19.out) hb);have n5_:=a0_ (Kd.R_below (rr_ HO22.out) hb);have n6_:=a0_ (Kd.R_below (rr_ HO26.out) hb);have n7_:=a0_ (Kd.R_below (rr_ HO30.out) hb);have n8_:=a0_ (blk_below (g:=gb1) (o:=.cells #[.slice A0_0 l0_0.length c0_0] 24 (0,0)) (bb_ BK1.out) hb);have n9_:=a0_ (blk_below (g:=gb16) (o:=.cells #[.slice Ao42 t13.length co42] 31 (0,0)) (bb_ BK16.out) hb);have n10_:=a0_ (below_step hb_ hb);clear HO6 HO9;clear HO12 HO15;clear HO19 HO22;clear HO26 HO30;clear BK1 BK16 HB;have HO6:=n0_;have HO9:=n1_;have HO12:=n2_;have HO15:=n3_;have HO19:=n4_;have HO22:=n5_;have HO26:=n6_;have HO30:=n7_;have BK1:=n8_;have BK16:=n9_;have HB:=n10_;clear n0_ n1_ n2_ n3_ n4_ n5_ n6_ n7_ n8_ n9_ n10_;(try clear hb);(try clear hb2);(try clear hk);(try clear hi);have hcz59_0 : w58.cell? ⟨gb16,0,none⟩ = some (.slice Ao42 t13.length co42):=(blk_cell BK16.out 0).trans rfl;have hfz59_0:=blk_frozen BK16.out 0) | ((with_reducible refine gate_callee (f:=20) rfl ?_);refine goesL_ (some 52) rfl rfl Try.func20 (by kernel_rfl) rfl #[.agg #[.slice Ao42 t13.length co42],.int .i64 1] rfl lm_ ?_;(with_reducible refine (laws_markTree.calls k (fun k_=>some k_ = (.slice Ao42 t13.length co42 : Value).ownBlock) (.slice Ao42 t13.length co42) t13 1 t32 t33 w _ ?side1 ?side2 A27.out).mono ?_);(case side1=>repeat (first | (with_reducible first | exact HB.out | apply below_alloc | apply pw_below_drewN | apply below_drew1 | refine below_set ?_ GE1.out | refine below_set ?_ GE16.out) | exact HB.out));(case side2=>exact Kd.R_tight rfl HO15.out);rintro e w60 ⟨rfl,hy0,hb,hkp⟩;refine ⟨_,rfl,?_⟩;have n0_:=a0_ (blk_kept (bb_ BK1.out) hkp (fun hs_=>(fun e_=>(Kd.R_ne HO15.out BK1.out (by decide)) e_) hs_));have n1_:=a0_ (Kd.R_mono (ok':=fun k_=>some k_ ≠ (.slice Ao42 t13.length co42 : Value).ownBlock ∧ some k_ ≠ (.slice Ao54 t24.length co54 : Value).ownBlock) (Kd.R_keptB (HO6.out) hkp (fun k_ hk_ hs_=>(hk_.1.2) hs_)) (fun k_ hk_=>⟨hk_.1.1.2,hk_.1.2⟩));have n2_:=a0_ (Kd.R_mono (ok':=fun k_=>some k_ ≠ (.slice Ao47 t17.length co47 : Value).ownBlock ∧ some k_ ≠ (.slice Ao57 t28.length co57 : Value).ownBlock) (Kd.R_keptB ((Kd.R_apart' HO9.out (Kd.R_typed HO15.out) (by decide))) hkp (fun k_ hk_ hs_=>(hk_.2) hs_)) (fun k_ hk_=>⟨hk_.1.1.1.2,hk_.1.1.2⟩));have n3_:=a0_ (Kd.R_mono (ok':=fun k_=>some k_ ≠ (.slice Ao49 t20.length co49 : Value).ownBlock) (Kd.R_keptB ((Kd.R_apart' HO12.out (Kd.R_typed HO15.out) (by decide))) hkp (fun k_ hk_ hs_=>(hk_.2) hs_)) (fun k_ hk_=>hk_.1.1.2));have n4_:=a0_ (Kd.R_reok rfl hy0 (fun k_ e_=>HO15.out.1 k_ e_));have n5_:=a0_ (blk_kept (bb_ BK16.out) hkp (fun hs_=>(fun e_=>(Kd.R_ne HO15.out BK16.out (by decide)) e_) hs_));have n6_:=a0_ (Kd.R_mono (ok':=fun k_=>some k_ ≠ (.slice Ao37 t7.length co37 : Value).ownBlock ∧ some k_ ≠ (.slice Ao57 t28.length co57 : Value).ownBlock) (Kd.R_keptB ((Kd.R_apart' HO19.out (Kd.R_typed HO15.out) (by decide))) hkp (fun k_ hk_ hs_=>(hk_.2) hs_)) (fun k_ hk_=>⟨hk_.1.1.1.2,hk_.1.1.2⟩));have n7_:=a0_ (Kd.R_mono (ok':=fun k_=>some k_ ≠ (.slice Ao50 t10.length co50 : Value).ownBlock) (Kd.R_keptB ((Kd.R_apart' HO22.out (Kd.R_typed HO15.out) (by decide))) hkp (fun k_ hk_ hs_=>(hk_.2) hs_)) (fun k_ hk_=>hk_.1.1.2));have n8_:=a0_ (Kd.R_mono (ok':=fun k_=>some k_ ≠ (.slice Ao36 t4.length co36 : Value).ownBlock ∧ some k_ ≠ (.slice Ao42 t13.length co42 : Value).ownBlock) (Kd.R_keptB (HO26.out) hkp (fun k_ hk_ hs_=>(hk_.2) hs_)) (fun k_ hk_=>⟨hk_.1.1.2,hk_.1.2⟩));have n9_:=a0_ (Kd.R_mono (ok':=fun k_=>some k_ ≠ (.slice Ao37 t7.length co37 : Value).ownBlock ∧ some k_ ≠ (.slice Ao47 t17.length co47 : Value).ownBlock) (Kd.R_keptB ((Kd.R_apart' HO30.out (Kd.R_typed HO15.out) (by decide))) hkp (fun k_ hk_ hs_=>(hk_.2) hs_)) (fun k_ hk_=>⟨hk_.1.1.1.2,hk_.1.1.2⟩));have n10_:=a0_ (hb);clear BK1 HO6;clear HO9 HO12;clear HO15 BK16;clear HO19 HO22;clear HO26 HO30 HB;have BK1:=n0_;have HO6:=n1_;have HO9:=n2_;have HO12:=n3_;have HO15:=n4_;have BK16:=n5_;have HO19:=n6_;have HO22:=n7_;have HO26:=n8_;have HO30:=n9_;have HB:=n10_;clear n0_ n1_ n2_ n3_ n4_ n5_ n6_ n7_ n8_ n9_ n10_;(try clear hb);(try clear hkp);(try clear hy0)) | ((with_reducible refine gate_callee (f:=21) rfl ?_);refine goesL_ (some 55) rfl rfl Try.func21 (by kernel_rfl) rfl #[.slice Ao47 t17.length co47,.int .i64 t32] rfl lm_ ?_;(with_reducible refine (laws_markPartS.calls k (fun k_=>some k_ = (.slice Ao47 t17.length co47 : Value).ownBlock) (.slice Ao47 t17.length co47) t17 t32 t34 t35 w _ ?side1 ?side2 A28.out).mono ?_);(case side1=>repeat (first | (with_reducible first | exact HB.out | apply below_alloc | apply pw_below_drewN | apply below_drew1 | refine below_set ?_ GE1.out | refine below_set ?_ GE16.out) | exact HB.out));(case side2=>exact Kd.R_tight rfl HO19.out);rintro e w61 ⟨rfl,hy0,hb,hkp⟩;refine ⟨_,rfl,?_⟩;have n0_:=a0_ (blk_kept (bb_ BK1.out) hkp (fun hs_=>(fun e_=>(Kd.R_ne HO19.out BK1.out (by decide)) e_) hs_));have n1_:=a0_ (Kd.R_mono (ok':=fun k_=>some k_ ≠ (.slice Ao42 t13.length co42 : Value).ownBlock ∧ some k_ ≠ (.slice Ao54 t24.length co54 : Value).ownBlock) (Kd.R_keptB ((Kd.R_apart' HO6.out (Kd.R_typed HO19.out) (by decide))) hkp (fun k_ hk_ hs_=>(hk_.2) hs_)) (fun k_ hk_=>⟨hk_.1.1.1,hk_.1.1.2⟩));have n2_:=a0_ (Kd.R_mono (ok':=fun k_=>some k_ ≠ (.slice Ao47 t17.length co47 : Value).ownBlock ∧ some k_ ≠ (.slice Ao57 t28.length co57 : Value).ownBlock) (Kd.R_keptB (HO9.out) hkp (fun k_ hk_ hs_=>(hk_.1) hs_)) (fun k_ hk_=>⟨hk_.1.1,hk_.1.2⟩));have n3_:=a0_ (Kd.R_mono (ok':=fun k_=>some k_ ≠ (.slice Ao49 t20.length co49 : Value).ownBlock) (Kd.R_keptB ((Kd.R_apart' HO12.out (Kd.R_typed HO19.out) (by decide))) hkp (fun k_ hk_ hs_=>(hk_.2) hs_)) (fun k_ hk_=>hk_.1.1));have n4_:=a0_ (Kd.R_mono (ok':=fun k_=>some k_ ≠ (.slice Ao36 t4.length co36 : Value).ownBlock ∧ some k_ ≠ (.slice Ao54 t24.length co54 : Value).ownBlock) (Kd.R_keptB ((Kd.R_apart' HO15.out (Kd.R_typed HO19.out) (by decide))) hkp (fun k_ hk_ hs_=>(hk_.2) hs_)) (fun k_ hk_=>⟨hk_.1.1.1.2,hk_.1.1.2⟩));have n5_:=a0_ (blk_kept (bb_ BK16.out) hkp (fun hs_=>(fun e_=>(Kd.R_ne HO19.out BK16.out (by decide)) e_) hs_));have n6_:=a0_ (Kd.R_reok rfl hy0 (fun k_ e_=>HO19.out.1 k_ e_));have n7_:=a0_ (Kd.R_mono (ok':=fun k_=>some k_ ≠ (.slice Ao50 t10.length co50 : Value).ownBlock) (Kd.R_keptB ((Kd.R_apart' HO22.out (Kd.R_typed HO19.out) (by decide))) hkp (fun k_ hk_ hs_=>(hk_.2) hs_)) (fun k_ hk_=>hk_.1.1));have n8_:=a0_ (Kd.R_mono (ok':=fun k_=>some k_ ≠ (.slice Ao36 t4.length co36 : Value).ownBlock ∧ some k_ ≠ (.slice Ao42 t13.length co42 : Value).ownBlock) (Kd.R_keptB ((Kd.R_apart' HO26.out (Kd.R_typed HO19.out) (by decide))) hkp (fun k_ hk_ hs_=>(hk_.2) hs_)) (fun k_ hk_=>⟨hk_.1.1.1,hk_.1.1.2⟩));have n9_:=a0_ (Kd.R_mono (ok':=fun k_=>some k_ ≠ (.slice Ao37 t7.length co37 : Value).ownBlock ∧ some k_ ≠ (.slice Ao47 t17.length co47 : Value).ownBlock) (Kd.R_keptB (HO30.out) hkp (fun k_ hk_ hs_=>(hk_.2) hs_)) (fun k_ hk_=>⟨hk_.1.1,hk_.1.2⟩));have n10_:=a0_ (hb);clear BK1 HO6;clear HO9 HO12;clear HO15 BK16;clear HO19 HO22;clear HO26 HO30 HB;have BK1:=n0_;have HO6:=n1_;have HO9:=n2_;have HO12:=n3_;have HO15:=n4_;have BK16:=n5_;have HO19:=n6_;have HO22:=n7_;have HO26:=n8_;have HO30:=n9_;have HB:=n10_;clear n0_ n1_ n2_ n3_ n4_ n5_ n6_ n7_ n8_ n9_ n10_;(try clear hb);(try clear hkp);(try clear hy0)))
      (try simp only [Act.put,List.setIfInBounds_toArray,List.set_cons_zero,List.set_cons_succ])
      go_cut [63] (fun v63 wc=>∃ (kq : Nat) (x63_28 : Bool),v63 = .bool x63_28 ∧ Aside0 (laws_FnExactLeavesOf.j0 kq l1 t10 t20 x63_28 l0_0 = some r) ∧ Aside0 (kq ≤ k) ∧ Aside0 (Kd.R k76 76 wc w.heap.size (fun k_=>some k_ ≠ ((.slice Ao49 t20.length co49) : Value).ownBlock) (.slice Ao50 t10.length co50) t10) ∧ Aside0 (Kd.R k76 76 wc w.heap.size (fun k_=>some k_ ≠ ((.slice Ao50 t10.length co50) : Value).ownBlock) (.slice Ao49 t20.length co49) t20) ∧ Aside0 (Kd.R k89 89 wc w.heap.size (fun _=>True) (.slice Ao42 t13.length co42) t33) ∧ Aside0 (wc.heap[gb1]? = some (.cells #[(.slice A0_0 l0_0.length c0_0)] 24 (0,0))) ∧ Aside0 (wc.heap[gb16]? = some (.cells #[(.slice Ao42 t13.length co42)] 31 (0,0))) ∧ Aside0 (Below w.heap.size w wc))
      case first =>
       have H:=HC29.out
       clear HC29
       by_cases c62 : t34 < 0
       ·rw [if_pos c62] at H
        have c62b0 : decide (t34 < 0) = true:=decide_eq_true c62
        clear c62
        (first | rw [c62b0] | (simp only [i64_w,i32_w];rw [c62b0]) | skip)
        have H':=a0_ H
        clear H
        go_wp2
        go_meet
        case rel=>exact ⟨_,(true),(by first | rfl | (simp;done) | (simp [*];done)),H',⟨by first | omega | exact Nat.le_refl _⟩,⟨by (with_reducible repeat (first | apply Kd.R_alloc | apply Kd.R_drewN | apply Kd.R_drew));exact HO12.out⟩,⟨by (with_reducible repeat (first | apply Kd.R_alloc | apply Kd.R_drewN | apply Kd.R_drew));exact HO22.out⟩,⟨by (with_reducible repeat (first | apply Kd.R_alloc | apply Kd.R_drewN | apply Kd.R_drew));exact Kd.R_mono HO15.out (fun _ hk=>trivial)⟩,⟨by (with_reducible repeat (first | refine blk_drewN ?_ _ | refine blk_drew ?_ | refine blk_alloc ?_ _));exact BK1.out⟩,⟨by (with_reducible repeat (first | refine blk_drewN ?_ _ | refine blk_drew ?_ | refine blk_alloc ?_ _));exact BK16.out⟩,⟨hb_⟩⟩
       ·rw [if_neg c62] at H
        have c62b0 : decide (t34 < 0) = false:=decide_eq_false c62
        clear c62
        (first | rw [c62b0] | (simp only [i64_w,i32_w];rw [c62b0]) | skip)
        replace H:=Option.bind_eq_some_iff.mp H
        obtain ⟨t36,A630,H⟩:=H
        replace H : (laws_FnExactLeavesOf.j0 k l1 t10 t20 (!t36) l0_0) = some r:=H
        have A63:=a0_ A630
        clear A630
        have H':=a0_ H
        clear H
        go_wp2_with (first | (go_at_call 25;(with_reducible refine (laws_eqLeafS.calls k _ _ t20 _ _ t10 t36 _ ?side1 ?side2 ?side3 ?side4 A63.out).mono ?_);(case side1=>repeat (first | exact (Kd.R_reads' HO22.out).2.2 | (with_reducible refine Kd.C_alloc ?_ _) | (with_reducible refine Kd.C_drewN ?_ _) | (with_reducible refine Kd.C_drew ?_)));(case side2=>exact (Kd.R_reads' HO22.out).2.1);(case side3=>repeat (first | exact (Kd.R_reads' HO12.out).2.2 | (with_reducible refine Kd.C_alloc ?_ _) | (with_reducible refine Kd.C_drewN ?_ _) | (with_reducible refine Kd.C_drew ?_)));(case side4=>exact (Kd.R_reads' HO12.out).2.1);rintro e w64 ⟨rfl,hb⟩;have n0_:=a0_ (Kd.R_below (rr_ HO6.out) hb);have n1_:=a0_ (Kd.R_below (rr_ HO9.out) hb);have n2_:=a0_ (Kd.R_below (rr_ HO12.out) hb);have n3_:=a0_ (Kd.R_below (rr_ HO15.out) hb);have n4_:=a0_ (Kd.R_below (rr_ HO19.out) hb);have n5_:=a0_ (Kd.R_below (rr_ HO22.out) hb);have n6_:=a0_ (Kd.R_below (rr_ HO26.out) hb);have n7_:=a0_ (Kd.R_below (rr_ HO30.out) hb);have n8_:=a0_ (blk_below (g:=gb1) (o:=.cells #[.slice A0_0 l0_0.length c0_0] 24 (0,0)) (bb_ BK1.out) hb);have n9_:=a0_ (blk_below (g:=gb16) (o:=.cells #[.slice Ao42 t13.length co42] 31 (0,0)) (bb_ BK16.out) hb);have n10_:=a0_ (below_step hb_ hb);clear HO6 HO9;clear HO12 HO15;clear HO19 HO22;clear HO26 HO30;clear BK1 BK16 HB;have HO6:=n0_;have HO9:=n1_;have HO12:=n2_;have HO15:=n3_;have HO19:=n4_;have HO22:=n5_;have HO26:=n6_;have HO30:=n7_;have BK1:=n8_;have BK16:=n9_;have HB:=n10_;clear n0_ n1_ n2_ n3_ n4_ n5_ n6_ n7_ n8_ n9_ n10_;(try clear hb);(try clear hb2);(try clear hk);(try clear hi)))
        go_meet
        case rel=>exact ⟨_,(!t36),(by first | rfl | (simp;done) | (simp [*];done)),H',⟨by first | omega | exact Nat.le_refl _⟩,⟨by (with_reducible repeat (first | apply Kd.R_alloc | apply Kd.R_drewN | apply Kd.R_drew));exact HO12.out⟩,⟨by (with_reducible repeat (first | apply Kd.R_alloc | apply Kd.R_drewN | apply Kd.R_drew));exact HO22.out⟩,⟨by (with_reducible repeat (first | apply Kd.R_alloc | apply Kd.R_drewN | apply Kd.R_drew));exact Kd.R_mono HO15.out (fun _ hk=>trivial)⟩,⟨by (with_reducible repeat (first | refine blk_drewN ?_ _ | refine blk_drew ?_ | refine blk_alloc ?_ _));exact BK1.out⟩,⟨by (with_reducible repeat (first | refine blk_drewN ?_ _ | refine blk_drew ?_ | refine blk_alloc ?_ _));exact BK16.out⟩,⟨hb_⟩⟩
      case rest =>
       clear HC29
       try clear c1
       try clear c2
       try clear p2
       try clear c4
       try clear c4b0
       try clear c5
       try clear c6
       try clear c9
       try clear c9b0
       try clear c10
       try clear c11
       try clear c13
       try clear c14
       try clear c16
       try clear c17
       try clear c20
       try clear c21
       try clear c23
       try clear c24
       try clear c25
       try clear c26
       try clear c43
       try clear c62
       try clear c62b0
       try clear hcz11_0
       try clear hcz31_0
       try clear hcz33_0
       try clear hcz39_0
       try clear hcz44_0
       try clear hcz46_0
       try clear hcz59_0
       try clear hcz6_0
       try clear hfz11_0
       try clear hfz31_0
       try clear hfz33_0
       try clear hfz39_0
       try clear hfz44_0
       try clear hfz46_0
       try clear hfz59_0
       try clear hfz6_0
       obtain ⟨kq,x63_28,rfl,HA,HJ28,HO_6,HO_9,HO_17000,BK1,BK16,HB⟩:=hcut
       have hl17000_28:=(Kd.R_reads' HO_17000.out).1
       rw [hl17000_28] at HO_17000
       (try simp only [hl17000_28])
       (try simp only [hl17000_28] at BK1)
       (try simp only [hl17000_28] at BK16)
       (try simp only [hl17000_28] at HO_6)
       (try simp only [hl17000_28] at HO_9)
       cases kq with
       | zero=>exact absurd HA.out (by simp [laws_FnExactLeavesOf.j0])
       | succ kj28 =>
        have H:=HA.out
        clear HA
        simp only [laws_FnExactLeavesOf.j0] at H
        by_cases c65 : x63_28 = true
        ·subst c65
         have H1 : (some false) = some r:=by rw [if_pos rfl] at H;exact H
         clear H
         have H:=H1
         clear H1
         obtain rfl:=Option.some.inj H
         go_wp2
         go_ret
         exact ⟨by first | rfl | (simp [errW_none,errW_some] <;> rfl) | (simp [*,errW_none,errW_some] <;> rfl),hb_⟩
        ·replace c65:=Bool.eq_false_iff.mpr c65
         subst c65
         have H1 : ((laws_markLeafS.f kj28 t20 1).bind fun bt37=>((laws_heldLeafS.f kj28 bt37.2 1).bind fun t39=>(if t39 < 0 then (some false) else (if t39 = bt37.1 then ((laws_toTree.f kj28 l0_0).bind fun t40=>((laws_toPartS.f kj28 l1).bind fun t43=>((impl_LeavesOf.f kj28 t40 t43).bind fun t46=>((laws_eqLeafS.f kj28 t46 t10).bind fun t49=>(if t49 = true then ((laws_heldLeafS.f kj28 bt37.2 1).bind fun t50=>(if t50 < 0 then (some false) else (if t50 = bt37.1 then (some true) else (some false)))) else (some false)))))) else (some false))))) = some r:=by rw [if_neg (show ¬ (false = true) by decide)] at H;exact H
         clear H
         have H:=H1
         clear H1
         replace H:=Option.bind_eq_some_iff.mp H
         obtain ⟨⟨t37,t38⟩,A660,H⟩:=H
         replace H : ((laws_heldLeafS.f kj28 t38 1).bind fun t39=>(if t39 < 0 then (some false) else (if t39 = t37 then ((laws_toTree.f kj28 l0_0).bind fun t40=>((laws_toPartS.f kj28 l1).bind fun t43=>((impl_LeavesOf.f kj28 t40 t43).bind fun t46=>((laws_eqLeafS.f kj28 t46 t10).bind fun t49=>(if t49 = true then ((laws_heldLeafS.f kj28 t38 1).bind fun t50=>(if t50 < 0 then (some false) else (if t50 = t37 then (some true) else (some false)))) else (some false)))))) else (some false)))) = some r:=H
         have A66:=a0_ A660
         clear A660
         replace H:=Option.bind_eq_some_iff.mp H
         obtain ⟨t39,A670,H⟩:=H
         replace H : (if t39 < 0 then (some false) else (if t39 = t37 then ((laws_toTree.f kj28 l0_0).bind fun t40=>((laws_toPartS.f kj28 l1).bind fun t43=>((impl_LeavesOf.f kj28 t40 t43).bind fun t46=>((laws_eqLeafS.f kj28 t46 t10).bind fun t49=>(if t49 = true then ((laws_heldLeafS.f kj28 t38 1).bind fun t50=>(if t50 < 0 then (some false) else (if t50 = t37 then (some true) else (some false)))) else (some false)))))) else (some false))) = some r:=H
         have A67:=a0_ A670
         clear A670
         by_cases c68 : t39 < 0
         ·rw [if_pos c68] at H
          have c68b0 : decide (t39 < 0) = true:=decide_eq_true c68
          clear c68
          obtain rfl:=Option.some.inj H
          go_wp2_with (first | ((with_reducible refine gate_callee (f:=26) rfl ?_);refine goesL_ (some 66) rfl rfl Try.func26 (by kernel_rfl) rfl #[.slice Ao49 t20.length co49,.int .i64 1] rfl lm_ ?_;(with_reducible refine (laws_markLeafS.calls kj28 (fun k_=>some k_ = (.slice Ao49 t20.length co49 : Value).ownBlock) (.slice Ao49 t20.length co49) t20 1 t37 t38 w _ ?side1 ?side2 A66.out).mono ?_);(case side1=>repeat (first | (with_reducible first | exact HB.out | apply below_alloc | apply pw_below_drewN | apply below_drew1 | refine below_set ?_ GE1.out | refine below_set ?_ GE16.out) | exact HB.out));(case side2=>exact Kd.R_tight rfl HO_9.out);rintro e w69 ⟨rfl,hy0,hb,hkp⟩;refine ⟨_,rfl,?_⟩;have n0_:=a0_ (Kd.R_mono (ok':=fun k_=>some k_ ≠ (.slice Ao49 t20.length co49 : Value).ownBlock) (Kd.R_keptB (HO_6.out) hkp (fun k_ hk_ hs_=>(hk_) hs_)) (fun k_ hk_=>hk_.1));have n1_:=a0_ (Kd.R_reok rfl hy0 (fun k_ e_=>HO_9.out.1 k_ e_));have n2_:=a0_ (Kd.R_mono (ok':=fun k_=>True) (Kd.R_keptB ((Kd.R_apart' HO_17000.out (Kd.R_typed HO_9.out) (by decide))) hkp (fun k_ hk_ hs_=>(hk_.2) hs_)) (fun k_ hk_=>trivial));have n3_:=a0_ (blk_kept (bb_ BK1.out) hkp (fun hs_=>(fun e_=>(Kd.R_ne HO_9.out BK1.out (by decide)) e_) hs_));have n4_:=a0_ (blk_kept (bb_ BK16.out) hkp (fun hs_=>(fun e_=>(Kd.R_ne HO_9.out BK16.out (by decide)) e_) hs_));have n5_:=a0_ (hb);clear HO_6 HO_9;clear HO_17000 BK1;clear BK16 HB;have HO_6:=n0_;have HO_9:=n1_;have HO_17000:=n2_;have BK1:=n3_;have BK16:=n4_;have HB:=n5_;clear n0_ n1_ n2_ n3_ n4_ n5_;(try clear hb);(try clear hkp);(try clear hy0)) | ((with_reducible refine gate_callee (f:=27) rfl ?_);refine goesL_ (some 69) rfl rfl Try.func27 (by kernel_rfl) rfl #[.slice Ao49 t38.length co49,.int .i64 1] rfl (by (try simp only [List.map_toArray,List.map_cons,List.map_nil]);first | done | (rw [show t38.length = t20.length from (Kd.R_reads' HO_9.out).1.symm] <;> rfl) | rfl | (simp only [List.length_drop,List.length_take];rfl)) ?_;(with_reducible refine (laws_heldLeafS.calls kj28 _ _ t38 1 t39 _ ?side1 ?side2 A67.out).mono ?_);(case side1=>repeat (first | exact (Kd.R_reads' HO_9.out).2.2 | (with_reducible refine Kd.C_alloc ?_ _) | (with_reducible refine Kd.C_drewN ?_ _) | (with_reducible refine Kd.C_drew ?_)));(case side2=>rw [show t38.length = t20.length from (Kd.R_reads' HO_9.out).1.symm];exact (Kd.R_reads' HO_9.out).2.1);rintro e w' ⟨rfl,⟨nd,rfl⟩⟩;refine ⟨_,rfl,?_⟩))
          go_ret
          exact ⟨by first | rfl | (simp [errW_none,errW_some] <;> rfl) | (simp [*,errW_none,errW_some] <;> rfl),hb_⟩
         ·rw [if_neg c68] at H
          have c68b0 : decide (t39 < 0) = false:=decide_eq_false c68
          clear c68
          by_cases c70 : t39 = t37
          ·rw [if_pos c70] at H
           have c70b0 : (t39 == t37) = true:=beq_iff_eq.mpr c70
           have c70b1 : (t39 != t37) = false:=bne_eq_false_iff_eq.mpr c70
           clear c70
           replace H:=Option.bind_eq_some_iff.mp H
           obtain ⟨t40,A710,H⟩:=H
           replace H : ((laws_toPartS.f kj28 l1).bind fun t43=>((impl_LeavesOf.f kj28 t40 t43).bind fun t46=>((laws_eqLeafS.f kj28 t46 t10).bind fun t49=>(if t49 = true then ((laws_heldLeafS.f kj28 t38 1).bind fun t50=>(if t50 < 0 then (some false) else (if t50 = t37 then (some true) else (some false)))) else (some false))))) = some r:=H
           have A71:=a0_ A710
           clear A710
           replace H:=Option.bind_eq_some_iff.mp H
           obtain ⟨t43,A720,H⟩:=H
           replace H : ((impl_LeavesOf.f kj28 t40 t43).bind fun t46=>((laws_eqLeafS.f kj28 t46 t10).bind fun t49=>(if t49 = true then ((laws_heldLeafS.f kj28 t38 1).bind fun t50=>(if t50 < 0 then (some false) else (if t50 = t37 then (some true) else (some false)))) else (some false)))) = some r:=H
           have A72:=a0_ A720
           clear A720
           replace H:=Option.bind_eq_some_iff.mp H
           obtain ⟨t46,A730,H⟩:=H
           replace H : ((laws_eqLeafS.f kj28 t46 t10).bind fun t49=>(if t49 = true then ((laws_heldLeafS.f kj28 t38 1).bind fun t50=>(if t50 < 0 then (some false) else (if t50 = t37 then (some true) else (some false)))) else (some false))) = some r:=H
           have A73:=a0_ A730
           clear A730
           replace H:=Option.bind_eq_some_iff.mp H
           obtain ⟨t49,A740,H⟩:=H
           replace H : (if t49 = true then ((laws_heldLeafS.f kj28 t38 1).bind fun t50=>(if t50 < 0 then (some false) else (if t50 = t37 then (some true) else (some false)))) else (some false)) = some r:=H
           have A74:=a0_ A740
           clear A740
           by_cases c75 : t49 = true
           ·subst c75
            have H1 : ((laws_heldLeafS.f kj28 t38 1).bind fun t50=>(if t50 < 0 then (some false) else (if t50 = t37 then (some true) else (some false)))) = some r:=by rw [if_pos rfl] at H;exact H
            clear H
            have H:=H1
            clear H1
            replace H:=Option.bind_eq_some_iff.mp H
            obtain ⟨t50,A760,H⟩:=H
            replace H : (if t50 < 0 then (some false) else (if t50 = t37 then (some true) else (some false))) = some r:=H
            have A76:=a0_ A760
            clear A760
            by_cases c77 : t50 < 0
            ·rw [if_pos c77] at H
             have c77b0 : decide (t50 < 0) = true:=decide_eq_true c77
             clear c77
             obtain rfl:=Option.some.inj H
             go_wp2_with (first | ((with_reducible refine gate_callee (f:=26) rfl ?_);refine goesL_ (some 66) rfl rfl Try.func26 (by kernel_rfl) rfl #[.slice Ao49 t20.length co49,.int .i64 1] rfl lm_ ?_;(with_reducible refine (laws_markLeafS.calls kj28 (fun k_=>some k_ = (.slice Ao49 t20.length co49 : Value).ownBlock) (.slice Ao49 t20.length co49) t20 1 t37 t38 w _ ?side1 ?side2 A66.out).mono ?_);(case side1=>repeat (first | (with_reducible first | exact HB.out | apply below_alloc | apply pw_below_drewN | apply below_drew1 | refine below_set ?_ GE1.out | refine below_set ?_ GE16.out) | exact HB.out));(case side2=>exact Kd.R_tight rfl HO_9.out);rintro e w78 ⟨rfl,hy0,hb,hkp⟩;refine ⟨_,rfl,?_⟩;have n0_:=a0_ (Kd.R_mono (ok':=fun k_=>some k_ ≠ (.slice Ao49 t20.length co49 : Value).ownBlock) (Kd.R_keptB (HO_6.out) hkp (fun k_ hk_ hs_=>(hk_) hs_)) (fun k_ hk_=>hk_.1));have n1_:=a0_ (Kd.R_reok rfl hy0 (fun k_ e_=>HO_9.out.1 k_ e_));have n2_:=a0_ (Kd.R_mono (ok':=fun k_=>True) (Kd.R_keptB ((Kd.R_apart' HO_17000.out (Kd.R_typed HO_9.out) (by decide))) hkp (fun k_ hk_ hs_=>(hk_.2) hs_)) (fun k_ hk_=>trivial));have n3_:=a0_ (blk_kept (bb_ BK1.out) hkp (fun hs_=>(fun e_=>(Kd.R_ne HO_9.out BK1.out (by decide)) e_) hs_));have n4_:=a0_ (blk_kept (bb_ BK16.out) hkp (fun hs_=>(fun e_=>(Kd.R_ne HO_9.out BK16.out (by decide)) e_) hs_));have n5_:=a0_ (hb);clear HO_6 HO_9;clear HO_17000 BK1;clear BK16 HB;have HO_6:=n0_;have HO_9:=n1_;have HO_17000:=n2_;have BK1:=n3_;have BK16:=n4_;have HB:=n5_;clear n0_ n1_ n2_ n3_ n4_ n5_;(try clear hb);(try clear hkp);(try clear hy0)) | ((with_reducible refine gate_callee (f:=27) rfl ?_);refine goesL_ (some 69) rfl rfl Try.func27 (by kernel_rfl) rfl #[.slice Ao49 t38.length co49,.int .i64 1] rfl (by (try simp only [List.map_toArray,List.map_cons,List.map_nil]);first | done | (rw [show t38.length = t20.length from (Kd.R_reads' HO_9.out).1.symm] <;> rfl) | rfl | (simp only [List.length_drop,List.length_take];rfl)) ?_;(with_reducible refine (laws_heldLeafS.calls kj28 _ _ t38 1 t39 _ ?side1 ?side2 A67.out).mono ?_);(case side1=>repeat (first | exact (Kd.R_reads' HO_9.out).2.2 | (with_reducible refine Kd.C_alloc ?_ _) | (with_reducible refine Kd.C_drewN ?_ _) | (with_reducible refine Kd.C_drew ?_)));(case side2=>rw [show t38.length = t20.length from (Kd.R_reads' HO_9.out).1.symm];exact (Kd.R_reads' HO_9.out).2.1);rintro e w' ⟨rfl,⟨nd,rfl⟩⟩;refine ⟨_,rfl,?_⟩;have hnb79:=NB1_16.out;have hnc79:=NB16_1.out;have hcz80_0 : w78.cell? ⟨gb1,0,none⟩ = some (.slice A0_0 l0_0.length c0_0):=(blk_cell BK1.out 0).trans rfl;have hfz80_0:=blk_frozen BK1.out 0) | ((with_reducible refine gate_callee (f:=13) rfl ?_);refine goesL_ (some 76) rfl rfl Try.func13 (by kernel_rfl) rfl #[.agg #[.slice A0_0 l0_0.length c0_0]] rfl lm_ ?_;(with_reducible refine (laws_toTree.calls kj28 _ _ l0_0 t40 _ ?side1 ?side2 A71.out).mono ?_);(case side1=>repeat (first | exact (Kd.C_below HR0_0.out hb_) | (with_reducible refine Kd.C_alloc ?_ _) | (with_reducible refine Kd.C_drewN ?_ _) | (with_reducible refine Kd.C_drew ?_)));(case side2=>exact HC0_0.out);rintro e w81 ⟨v41,rfl,ho0,hb⟩;refine ⟨_,rfl,?_⟩;have n0_:=a0_ (Kd.R_below (rr_ HO_6.out) hb);have n1_:=a0_ (Kd.R_below (rr_ HO_9.out) hb);have n2_:=a0_ (Kd.R_elder' (rr_ HO_17000.out) (Kd.R_base ho0) hb);have n3_:=a0_ (Kd.R_lower (Kd.R_new' ho0 (Kd.R_lt (rr_ HO_17000.out))) (below_size hb_));have n4_:=a0_ (blk_below (g:=gb1) (o:=.cells #[.slice A0_0 l0_0.length c0_0] 24 (0,0)) (bb_ BK1.out) hb);have n5_:=a0_ (blk_below (g:=gb16) (o:=.cells #[.slice Ao42 t33.length co42] 31 (0,0)) (bb_ BK16.out) hb);have n6_:=a0_ (below_step hb_ hb);clear HO_6 HO_9;clear HO_17000 BK1;clear BK16 HB;have HO_6:=n0_;have HO_9:=n1_;have HO_17000:=n2_;have HO42:=n3_;have BK1:=n4_;have BK16:=n5_;have HB:=n6_;clear n0_ n1_ n2_ n3_ n4_ n5_ n6_;(try clear hb);(try clear hb2);(try clear hk);(try clear hi);(try clear ho0)) | ((with_reducible refine gate_callee (f:=14) rfl ?_);refine goesL_ (some 78) rfl rfl Try.func14 (by kernel_rfl) rfl #[.slice A1 l1.length c1] rfl lm_ ?_;(with_reducible refine (laws_toPartS.calls kj28 _ _ l1 t43 _ ?side1 ?side2 A72.out).mono ?_);(case side1=>exact cc_ (Kd.C_below HR1.out HB.out));(case side2=>exact HC1.out);rintro e w82 ⟨v44,rfl,ho0,hb⟩;refine ⟨_,rfl,?_⟩;have n0_:=a0_ (Kd.R_below (rr_ HO_6.out) hb);have n1_:=a0_ (Kd.R_below (rr_ HO_9.out) hb);have n2_:=a0_ (Kd.R_below (rr_ HO_17000.out) hb);have n3_:=a0_ (Kd.R_below (rr_ HO42.out) hb);have n4_:=a0_ (Kd.R_lower ho0 (below_size hb_));have n5_:=a0_ (blk_below (g:=gb1) (o:=.cells #[.slice A0_0 l0_0.length c0_0] 24 (0,0)) (bb_ BK1.out) hb);have n6_:=a0_ (blk_below (g:=gb16) (o:=.cells #[.slice Ao42 t33.length co42] 31 (0,0)) (bb_ BK16.out) hb);have n7_:=a0_ (below_step hb_ hb);clear HO_6 HO_9;clear HO_17000 HO42;clear BK1 BK16 HB;have HO_6:=n0_;have HO_9:=n1_;have HO_17000:=n2_;have HO42:=n3_;have HO45:=n4_;have BK1:=n5_;have BK16:=n6_;have HB:=n7_;clear n0_ n1_ n2_ n3_ n4_ n5_ n6_ n7_;(try clear hb);(try clear hb2);(try clear hk);(try clear hi);(try clear ho0);obtain ⟨Ao83,co83,eo83⟩:=Kd.R_slice HO42.out;subst eo83;obtain ⟨Ao84,co84,eo84⟩:=Kd.R_slice HO45.out;subst eo84) | ((with_reducible refine gate_callee (f:=24) rfl ?_);refine goesL_ (some 79) rfl rfl Try.func24 (by kernel_rfl) rfl #[.agg #[.slice Ao83 t40.length co83],.slice Ao84 t43.length co84] rfl lm_ ?_;(with_reducible refine (impl_LeavesOf.calls kj28 _ _ t40 _ _ t43 t46 _ ?side1 ?side2 ?side3 ?side4 A73.out).mono ?_);(case side1=>repeat (first | exact (Kd.R_reads' HO42.out).2.2 | (with_reducible refine Kd.C_alloc ?_ _) | (with_reducible refine Kd.C_drewN ?_ _) | (with_reducible refine Kd.C_drew ?_)));(case side2=>exact (Kd.R_reads' HO42.out).2.1);(case side3=>repeat (first | exact (Kd.R_reads' HO45.out).2.2 | (with_reducible refine Kd.C_alloc ?_ _) | (with_reducible refine Kd.C_drewN ?_ _) | (with_reducible refine Kd.C_drew ?_)));(case side4=>exact (Kd.R_reads' HO45.out).2.1);rintro e w85 ⟨v47,rfl,ho0,hb⟩;refine ⟨_,rfl,?_⟩;have n0_:=a0_ (Kd.R_elder' (rr_ HO_6.out) (Kd.R_base ho0) hb);have n1_:=a0_ (Kd.R_elder' (rr_ HO_9.out) (Kd.R_base ho0) hb);have n2_:=a0_ (Kd.R_below (rr_ HO_17000.out) hb);have n3_:=a0_ (Kd.R_below (rr_ HO42.out) hb);have n4_:=a0_ (Kd.R_below (rr_ HO45.out) hb);have n5_:=a0_ (Kd.R_lower (Kd.R_new' (Kd.R_new' ho0 (Kd.R_lt (rr_ HO_6.out))) (Kd.R_lt (rr_ HO_9.out))) (below_size hb_));have n6_:=a0_ (blk_below (g:=gb1) (o:=.cells #[.slice A0_0 l0_0.length c0_0] 24 (0,0)) (bb_ BK1.out) hb);have n7_:=a0_ (blk_below (g:=gb16) (o:=.cells #[.slice Ao42 t33.length co42] 31 (0,0)) (bb_ BK16.out) hb);have n8_:=a0_ (below_step hb_ hb);clear HO_6 HO_9;clear HO_17000 HO42;clear HO45 BK1;clear BK16 HB;have HO_6:=n0_;have HO_9:=n1_;have HO_17000:=n2_;have HO42:=n3_;have HO45:=n4_;have HO48:=n5_;have BK1:=n6_;have BK16:=n7_;have HB:=n8_;clear n0_ n1_ n2_ n3_ n4_ n5_ n6_ n7_ n8_;(try clear hb);(try clear hb2);(try clear hk);(try clear hi);(try clear ho0);obtain ⟨Ao86,co86,eo86⟩:=Kd.R_slice HO48.out;subst eo86) | ((with_reducible refine gate_callee (f:=25) rfl ?_);refine goesL_ (some 82) rfl rfl Try.func25 (by kernel_rfl) rfl #[.slice Ao86 t46.length co86,.slice Ao50 t10.length co50] rfl lm_ ?_;(with_reducible refine (laws_eqLeafS.calls kj28 _ _ t46 _ _ t10 true _ ?side1 ?side2 ?side3 ?side4 A74.out).mono ?_);(case side1=>repeat (first | exact (Kd.R_reads' HO48.out).2.2 | (with_reducible refine Kd.C_alloc ?_ _) | (with_reducible refine Kd.C_drewN ?_ _) | (with_reducible refine Kd.C_drew ?_)));(case side2=>exact (Kd.R_reads' HO48.out).2.1);(case side3=>repeat (first | exact (Kd.R_reads' HO_6.out).2.2 | (with_reducible refine Kd.C_alloc ?_ _) | (with_reducible refine Kd.C_drewN ?_ _) | (with_reducible refine Kd.C_drew ?_)));(case side4=>exact (Kd.R_reads' HO_6.out).2.1);rintro e w87 ⟨rfl,hb⟩;refine ⟨_,rfl,?_⟩;have n0_:=a0_ (Kd.R_below (rr_ HO_6.out) hb);have n1_:=a0_ (Kd.R_below (rr_ HO_9.out) hb);have n2_:=a0_ (Kd.R_below (rr_ HO_17000.out) hb);have n3_:=a0_ (Kd.R_below (rr_ HO42.out) hb);have n4_:=a0_ (Kd.R_below (rr_ HO45.out) hb);have n5_:=a0_ (Kd.R_below (rr_ HO48.out) hb);have n6_:=a0_ (blk_below (g:=gb1) (o:=.cells #[.slice A0_0 l0_0.length c0_0] 24 (0,0)) (bb_ BK1.out) hb);have n7_:=a0_ (blk_below (g:=gb16) (o:=.cells #[.slice Ao42 t33.length co42] 31 (0,0)) (bb_ BK16.out) hb);have n8_:=a0_ (below_step hb_ hb);clear HO_6 HO_9;clear HO_17000 HO42;clear HO45 HO48;clear BK1 BK16 HB;have HO_6:=n0_;have HO_9:=n1_;have HO_17000:=n2_;have HO42:=n3_;have HO45:=n4_;have HO48:=n5_;have BK1:=n6_;have BK16:=n7_;have HB:=n8_;clear n0_ n1_ n2_ n3_ n4_ n5_ n6_ n7_ n8_;(try clear hb);(try clear hb2);(try clear hk);(try clear hi)) | ((with_reducible refine gate_callee (f:=27) rfl ?_);refine goesL_ (some 86) rfl rfl Try.func27 (by kernel_rfl) rfl #[.slice Ao49 t38.length co49,.int .i64 1] rfl (by (try simp only [List.map_toArray,List.map_cons,List.map_nil]);first | done | (rw [show t38.length = t20.length from (Kd.R_reads' HO_9.out).1.symm] <;> rfl) | rfl | (simp only [List.length_drop,List.length_take];rfl)) ?_;(with_reducible refine (laws_heldLeafS.calls kj28 _ _ t38 1 t50 _ ?side1 ?side2 A76.out).mono ?_);(case side1=>repeat (first | exact (Kd.R_reads' HO_9.out).2.2 | (with_reducible refine Kd.C_alloc ?_ _) | (with_reducible refine Kd.C_drewN ?_ _) | (with_reducible refine Kd.C_drew ?_)));(case side2=>rw [show t38.length = t20.length from (Kd.R_reads' HO_9.out).1.symm];exact (Kd.R_reads' HO_9.out).2.1);rintro e w' ⟨rfl,⟨nd,rfl⟩⟩;refine ⟨_,rfl,?_⟩))
             go_ret
             exact ⟨by first | rfl | (simp [errW_none,errW_some] <;> rfl) | (simp [*,errW_none,errW_some] <;> rfl),hb_⟩
            ·rw [if_neg c77] at H
             have c77b0 : decide (t50 < 0) = false:=decide_eq_false c77
             clear c77
             by_cases c88 : t50 = t37
             ·rw [if_pos c88] at H
              have c88b0 : (t50 == t37) = true:=beq_iff_eq.mpr c88
              have c88b1 : (t50 != t37) = false:=bne_eq_false_iff_eq.mpr c88
              clear c88
              obtain rfl:=Option.some.inj H
              go_wp2_with (first | ((with_reducible refine gate_callee (f:=26) rfl ?_);refine goesL_ (some 66) rfl rfl Try.func26 (by kernel_rfl) rfl #[.slice Ao49 t20.length co49,.int .i64 1] rfl lm_ ?_;(with_reducible refine (laws_markLeafS.calls kj28 (fun k_=>some k_ = (.slice Ao49 t20.length co49 : Value).ownBlock) (.slice Ao49 t20.length co49) t20 1 t37 t38 w _ ?side1 ?side2 A66.out).mono ?_);(case side1=>repeat (first | (with_reducible first | exact HB.out | apply below_alloc | apply pw_below_drewN | apply below_drew1 | refine below_set ?_ GE1.out | refine below_set ?_ GE16.out) | exact HB.out));(case side2=>exact Kd.R_tight rfl HO_9.out);rintro e w89 ⟨rfl,hy0,hb,hkp⟩;refine ⟨_,rfl,?_⟩;have n0_:=a0_ (Kd.R_mono (ok':=fun k_=>some k_ ≠ (.slice Ao49 t20.length co49 : Value).ownBlock) (Kd.R_keptB (HO_6.out) hkp (fun k_ hk_ hs_=>(hk_) hs_)) (fun k_ hk_=>hk_.1));have n1_:=a0_ (Kd.R_reok rfl hy0 (fun k_ e_=>HO_9.out.1 k_ e_));have n2_:=a0_ (Kd.R_mono (ok':=fun k_=>True) (Kd.R_keptB ((Kd.R_apart' HO_17000.out (Kd.R_typed HO_9.out) (by decide))) hkp (fun k_ hk_ hs_=>(hk_.2) hs_)) (fun k_ hk_=>trivial));have n3_:=a0_ (blk_kept (bb_ BK1.out) hkp (fun hs_=>(fun e_=>(Kd.R_ne HO_9.out BK1.out (by decide)) e_) hs_));have n4_:=a0_ (blk_kept (bb_ BK16.out) hkp (fun hs_=>(fun e_=>(Kd.R_ne HO_9.out BK16.out (by decide)) e_) hs_));have n5_:=a0_ (hb);clear HO_6 HO_9;clear HO_17000 BK1;clear BK16 HB;have HO_6:=n0_;have HO_9:=n1_;have HO_17000:=n2_;have BK1:=n3_;have BK16:=n4_;have HB:=n5_;clear n0_ n1_ n2_ n3_ n4_ n5_;(try clear hb);(try clear hkp);(try clear hy0)) | ((with_reducible refine gate_callee (f:=27) rfl ?_);refine goesL_ (some 69) rfl rfl Try.func27 (by kernel_rfl) rfl #[.slice Ao49 t38.length co49,.int .i64 1] rfl (by (try simp only [List.map_toArray,List.map_cons,List.map_nil]);first | done | (rw [show t38.length = t20.length from (Kd.R_reads' HO_9.out).1.symm] <;> rfl) | rfl | (simp only [List.length_drop,List.length_take];rfl)) ?_;(with_reducible refine (laws_heldLeafS.calls kj28 _ _ t38 1 t39 _ ?side1 ?side2 A67.out).mono ?_);(case side1=>repeat (first | exact (Kd.R_reads' HO_9.out).2.2 | (with_reducible refine Kd.C_alloc ?_ _) | (with_reducible refine Kd.C_drewN ?_ _) | (with_reducible refine Kd.C_drew ?_)));(case side2=>rw [show t38.length = t20.length from (Kd.R_reads' HO_9.out).1.symm];exact (Kd.R_reads' HO_9.out).2.1);rintro e w' ⟨rfl,⟨nd,rfl⟩⟩;refine ⟨_,rfl,?_⟩;have hnb90:=NB1_16.out;have hnc90:=NB16_1.out;have hcz91_0 : w89.cell? ⟨gb1,0,none⟩ = some (.slice A0_0 l0_0.length c0_0):=(blk_cell BK1.out 0).trans rfl;have hfz91_0:=blk_frozen BK1.out 0) | ((with_reducible refine gate_callee (f:=13) rfl ?_);refine goesL_ (some 76) rfl rfl Try.func13 (by kernel_rfl) rfl #[.agg #[.slice A0_0 l0_0.length c0_0]] rfl lm_ ?_;(with_reducible refine (laws_toTree.calls kj28 _ _ l0_0 t40 _ ?side1 ?side2 A71.out).mono ?_);(case side1=>repeat (first | exact (Kd.C_below HR0_0.out hb_) | (with_reducible refine Kd.C_alloc ?_ _) | (with_reducible refine Kd.C_drewN ?_ _) | (with_reducible refine Kd.C_drew ?_)));(case side2=>exact HC0_0.out);rintro e w92 ⟨v41,rfl,ho0,hb⟩;refine ⟨_,rfl,?_⟩;have n0_:=a0_ (Kd.R_below (rr_ HO_6.out) hb);have n1_:=a0_ (Kd.R_below (rr_ HO_9.out) hb);have n2_:=a0_ (Kd.R_elder' (rr_ HO_17000.out) (Kd.R_base ho0) hb);have n3_:=a0_ (Kd.R_lower (Kd.R_new' ho0 (Kd.R_lt (rr_ HO_17000.out))) (below_size hb_));have n4_:=a0_ (blk_below (g:=gb1) (o:=.cells #[.slice A0_0 l0_0.length c0_0] 24 (0,0)) (bb_ BK1.out) hb);have n5_:=a0_ (blk_below (g:=gb16) (o:=.cells #[.slice Ao42 t33.length co42] 31 (0,0)) (bb_ BK16.out) hb);have n6_:=a0_ (below_step hb_ hb);clear HO_6 HO_9;clear HO_17000 BK1;clear BK16 HB;have HO_6:=n0_;have HO_9:=n1_;have HO_17000:=n2_;have HO42:=n3_;have BK1:=n4_;have BK16:=n5_;have HB:=n6_;clear n0_ n1_ n2_ n3_ n4_ n5_ n6_;(try clear hb);(try clear hb2);(try clear hk);(try clear hi);(try clear ho0)) | ((with_reducible refine gate_callee (f:=14) rfl ?_);refine goesL_ (some 78) rfl rfl Try.func14 (by kernel_rfl) rfl #[.slice A1 l1.length c1] rfl lm_ ?_;(with_reducible refine (laws_toPartS.calls kj28 _ _ l1 t43 _ ?side1 ?side2 A72.out).mono ?_);(case side1=>exact cc_ (Kd.C_below HR1.out HB.out));(case side2=>exact HC1.out);rintro e w93 ⟨v44,rfl,ho0,hb⟩;refine ⟨_,rfl,?_⟩;have n0_:=a0_ (Kd.R_below (rr_ HO_6.out) hb);have n1_:=a0_ (Kd.R_below (rr_ HO_9.out) hb);have n2_:=a0_ (Kd.R_below (rr_ HO_17000.out) hb);have n3_:=a0_ (Kd.R_below (rr_ HO42.out) hb);have n4_:=a0_ (Kd.R_lower ho0 (below_size hb_));have n5_:=a0_ (blk_below (g:=gb1) (o:=.cells #[.slice A0_0 l0_0.length c0_0] 24 (0,0)) (bb_ BK1.out) hb);have n6_:=a0_ (blk_below (g:=gb16) (o:=.cells #[.slice Ao42 t33.length co42] 31 (0,0)) (bb_ BK16.out) hb);have n7_:=a0_ (below_step hb_ hb);clear HO_6 HO_9;clear HO_17000 HO42;clear BK1 BK16 HB;have HO_6:=n0_;have HO_9:=n1_;have HO_17000:=n2_;have HO42:=n3_;have HO45:=n4_;have BK1:=n5_;have BK16:=n6_;have HB:=n7_;clear n0_ n1_ n2_ n3_ n4_ n5_ n6_ n7_;(try clear hb);(try clear hb2);(try clear hk);(try clear hi);(try clear ho0);obtain ⟨Ao94,co94,eo94⟩:=Kd.R_slice HO42.out;subst eo94;obtain ⟨Ao95,co95,eo95⟩:=Kd.R_slice HO45.out;subst eo95) | ((with_reducible refine gate_callee (f:=24) rfl ?_);refine goesL_ (some 79) rfl rfl Try.func24 (by kernel_rfl) rfl #[.agg #[.slice Ao94 t40.length co94],.slice Ao95 t43.length co95] rfl lm_ ?_;(with_reducible refine (impl_LeavesOf.calls kj28 _ _ t40 _ _ t43 t46 _ ?side1 ?side2 ?side3 ?side4 A73.out).mono ?_);(case side1=>repeat (first | exact (Kd.R_reads' HO42.out).2.2 | (with_reducible refine Kd.C_alloc ?_ _) | (with_reducible refine Kd.C_drewN ?_ _) | (with_reducible refine Kd.C_drew ?_)));(case side2=>exact (Kd.R_reads' HO42.out).2.1);(case side3=>repeat (first | exact (Kd.R_reads' HO45.out).2.2 | (with_reducible refine Kd.C_alloc ?_ _) | (with_reducible refine Kd.C_drewN ?_ _) | (with_reducible refine Kd.C_drew ?_)));(case side4=>exact (Kd.R_reads' HO45.out).2.1);rintro e w96 ⟨v47,rfl,ho0,hb⟩;refine ⟨_,rfl,?_⟩;have n0_:=a0_ (Kd.R_elder' (rr_ HO_6.out) (Kd.R_base ho0) hb);have n1_:=a0_ (Kd.R_elder' (rr_ HO_9.out) (Kd.R_base ho0) hb);have n2_:=a0_ (Kd.R_below (rr_ HO_17000.out) hb);have n3_:=a0_ (Kd.R_below (rr_ HO42.out) hb);have n4_:=a0_ (Kd.R_below (rr_ HO45.out) hb);have n5_:=a0_ (Kd.R_lower (Kd.R_new' (Kd.R_new' ho0 (Kd.R_lt (rr_ HO_6.out))) (Kd.R_lt (rr_ HO_9.out))) (below_size hb_));have n6_:=a0_ (blk_below (g:=gb1) (o:=.cells #[.slice A0_0 l0_0.length c0_0] 24 (0,0)) (bb_ BK1.out) hb);have n7_:=a0_ (blk_below (g:=gb16) (o:=.cells #[.slice Ao42 t33.length co42] 31 (0,0)) (bb_ BK16.out) hb);have n8_:=a0_ (below_step hb_ hb);clear HO_6 HO_9;clear HO_17000 HO42;clear HO45 BK1;clear BK16 HB;have HO_6:=n0_;have HO_9:=n1_;have HO_17000:=n2_;have HO42:=n3_;have HO45:=n4_;have HO48:=n5_;have BK1:=n6_;have BK16:=n7_;have HB:=n8_;clear n0_ n1_ n2_ n3_ n4_ n5_ n6_ n7_ n8_;(try clear hb);(try clear hb2);(try clear hk);(try clear hi);(try clear ho0);obtain ⟨Ao97,co97,eo97⟩:=Kd.R_slice HO48.out;subst eo97) | ((with_reducible refine gate_callee (f:=25) rfl ?_);refine goesL_ (some 82) rfl rfl Try.func25 (by kernel_rfl) rfl #[.slice Ao97 t46.length co97,.slice Ao50 t10.length co50] rfl lm_ ?_;(with_reducible refine (laws_eqLeafS.calls kj28 _ _ t46 _ _ t10 true _ ?side1 ?side2 ?side3 ?side4 A74.out).mono ?_);(case side1=>repeat (first | exact (Kd.R_reads' HO48.out).2.2 | (with_reducible refine Kd.C_alloc ?_ _) | (with_reducible refine Kd.C_drewN ?_ _) | (with_reducible refine Kd.C_drew ?_)));(case side2=>exact (Kd.R_reads' HO48.out).2.1);(case side3=>repeat (first | exact (Kd.R_reads' HO_6.out).2.2 | (with_reducible refine Kd.C_alloc ?_ _) | (with_reducible refine Kd.C_drewN ?_ _) | (with_reducible refine Kd.C_drew ?_)));(case side4=>exact (Kd.R_reads' HO_6.out).2.1);rintro e w98 ⟨rfl,hb⟩;refine ⟨_,rfl,?_⟩;have n0_:=a0_ (Kd.R_below (rr_ HO_6.out) hb);have n1_:=a0_ (Kd.R_below (rr_ HO_9.out) hb);have n2_:=a0_ (Kd.R_below (rr_ HO_17000.out) hb);have n3_:=a0_ (Kd.R_below (rr_ HO42.out) hb);have n4_:=a0_ (Kd.R_below (rr_ HO45.out) hb);have n5_:=a0_ (Kd.R_below (rr_ HO48.out) hb);have n6_:=a0_ (blk_below (g:=gb1) (o:=.cells #[.slice A0_0 l0_0.length c0_0] 24 (0,0)) (bb_ BK1.out) hb);have n7_:=a0_ (blk_below (g:=gb16) (o:=.cells #[.slice Ao42 t33.length co42] 31 (0,0)) (bb_ BK16.out) hb);have n8_:=a0_ (below_step hb_ hb);clear HO_6 HO_9;clear HO_17000 HO42;clear HO45 HO48;clear BK1 BK16 HB;have HO_6:=n0_;have HO_9:=n1_;have HO_17000:=n2_;have HO42:=n3_;have HO45:=n4_;have HO48:=n5_;have BK1:=n6_;have BK16:=n7_;have HB:=n8_;clear n0_ n1_ n2_ n3_ n4_ n5_ n6_ n7_ n8_;(try clear hb);(try clear hb2);(try clear hk);(try clear hi)) | ((with_reducible refine gate_callee (f:=27) rfl ?_);refine goesL_ (some 86) rfl rfl Try.func27 (by kernel_rfl) rfl #[.slice Ao49 t38.length co49,.int .i64 1] rfl (by (try simp only [List.map_toArray,List.map_cons,List.map_nil]);first | done | (rw [show t38.length = t20.length from (Kd.R_reads' HO_9.out).1.symm] <;> rfl) | rfl | (simp only [List.length_drop,List.length_take];rfl)) ?_;(with_reducible refine (laws_heldLeafS.calls kj28 _ _ t38 1 t50 _ ?side1 ?side2 A76.out).mono ?_);(case side1=>repeat (first | exact (Kd.R_reads' HO_9.out).2.2 | (with_reducible refine Kd.C_alloc ?_ _) | (with_reducible refine Kd.C_drewN ?_ _) | (with_reducible refine Kd.C_drew ?_)));(case side2=>rw [show t38.length = t20.length from (Kd.R_reads' HO_9.out).1.symm];exact (Kd.R_reads' HO_9.out).2.1);rintro e w' ⟨rfl,⟨nd,rfl⟩⟩;refine ⟨_,rfl,?_⟩))
              go_ret
              exact ⟨by first | rfl | (simp [errW_none,errW_some] <;> rfl) | (simp [*,errW_none,errW_some] <;> rfl),hb_⟩
             ·rw [if_neg c88] at H
              have c88b0 : (t50 == t37) = false:=beq_eq_false_iff_ne.mpr c88
              have c88b1 : (t50 != t37) = true:=bne_iff_ne.mpr c88
              obtain rfl:=Option.some.inj H
              go_wp2_with (first | ((with_reducible refine gate_callee (f:=26) rfl ?_);refine goesL_ (some 66) rfl rfl Try.func26 (by kernel_rfl) rfl #[.slice Ao49 t20.length co49,.int .i64 1] rfl lm_ ?_;(with_reducible refine (laws_markLeafS.calls kj28 (fun k_=>some k_ = (.slice Ao49 t20.length co49 : Value).ownBlock) (.slice Ao49 t20.length co49) t20 1 t37 t38 w _ ?side1 ?side2 A66.out).mono ?_);(case side1=>repeat (first | (with_reducible first | exact HB.out | apply below_alloc | apply pw_below_drewN | apply below_drew1 | refine below_set ?_ GE1.out | refine below_set ?_ GE16.out) | exact HB.out));(case side2=>exact Kd.R_tight rfl HO_9.out);rintro e w99 ⟨rfl,hy0,hb,hkp⟩;refine ⟨_,rfl,?_⟩;have n0_:=a0_ (Kd.R_mono (ok':=fun k_=>some k_ ≠ (.slice Ao49 t20.length co49 : Value).ownBlock) (Kd.R_keptB (HO_6.out) hkp (fun k_ hk_ hs_=>(hk_) hs_)) (fun k_ hk_=>hk_.1));have n1_:=a0_ (Kd.R_reok rfl hy0 (fun k_ e_=>HO_9.out.1 k_ e_));have n2_:=a0_ (Kd.R_mono (ok':=fun k_=>True) (Kd.R_keptB ((Kd.R_apart' HO_17000.out (Kd.R_typed HO_9.out) (by decide))) hkp (fun k_ hk_ hs_=>(hk_.2) hs_)) (fun k_ hk_=>trivial));have n3_:=a0_ (blk_kept (bb_ BK1.out) hkp (fun hs_=>(fun e_=>(Kd.R_ne HO_9.out BK1.out (by decide)) e_) hs_));have n4_:=a0_ (blk_kept (bb_ BK16.out) hkp (fun hs_=>(fun e_=>(Kd.R_ne HO_9.out BK16.out (by decide)) e_) hs_));have n5_:=a0_ (hb);clear HO_6 HO_9;clear HO_17000 BK1;clear BK16 HB;have HO_6:=n0_;have HO_9:=n1_;have HO_17000:=n2_;have BK1:=n3_;have BK16:=n4_;have HB:=n5_;clear n0_ n1_ n2_ n3_ n4_ n5_;(try clear hb);(try clear hkp);(try clear hy0)) | ((with_reducible refine gate_callee (f:=27) rfl ?_);refine goesL_ (some 69) rfl rfl Try.func27 (by kernel_rfl) rfl #[.slice Ao49 t38.length co49,.int .i64 1] rfl (by (try simp only [List.map_toArray,List.map_cons,List.map_nil]);first | done | (rw [show t38.length = t20.length from (Kd.R_reads' HO_9.out).1.symm] <;> rfl) | rfl | (simp only [List.length_drop,List.length_take];rfl)) ?_;(with_reducible refine (laws_heldLeafS.calls kj28 _ _ t38 1 t39 _ ?side1 ?side2 A67.out).mono ?_);(case side1=>repeat (first | exact (Kd.R_reads' HO_9.out).2.2 | (with_reducible refine Kd.C_alloc ?_ _) | (with_reducible refine Kd.C_drewN ?_ _) | (with_reducible refine Kd.C_drew ?_)));(case side2=>rw [show t38.length = t20.length from (Kd.R_reads' HO_9.out).1.symm];exact (Kd.R_reads' HO_9.out).2.1);rintro e w' ⟨rfl,⟨nd,rfl⟩⟩;refine ⟨_,rfl,?_⟩;have hnb100:=NB1_16.out;have hnc100:=NB16_1.out;have hcz101_0 : w99.cell? ⟨gb1,0,none⟩ = some (.slice A0_0 l0_0.length c0_0):=(blk_cell BK1.out 0).trans rfl;have hfz101_0:=blk_frozen BK1.out 0) | ((with_reducible refine gate_callee (f:=13) rfl ?_);refine goesL_ (some 76) rfl rfl Try.func13 (by kernel_rfl) rfl #[.agg #[.slice A0_0 l0_0.length c0_0]] rfl lm_ ?_;(with_reducible refine (laws_toTree.calls kj28 _ _ l0_0 t40 _ ?side1 ?side2 A71.out).mono ?_);(case side1=>repeat (first | exact (Kd.C_below HR0_0.out hb_) | (with_reducible refine Kd.C_alloc ?_ _) | (with_reducible refine Kd.C_drewN ?_ _) | (with_reducible refine Kd.C_drew ?_)));(case side2=>exact HC0_0.out);rintro e w102 ⟨v41,rfl,ho0,hb⟩;refine ⟨_,rfl,?_⟩;have n0_:=a0_ (Kd.R_below (rr_ HO_6.out) hb);have n1_:=a0_ (Kd.R_below (rr_ HO_9.out) hb);have n2_:=a0_ (Kd.R_elder' (rr_ HO_17000.out) (Kd.R_base ho0) hb);have n3_:=a0_ (Kd.R_lower (Kd.R_new' ho0 (Kd.R_lt (rr_ HO_17000.out))) (below_size hb_));have n4_:=a0_ (blk_below (g:=gb1) (o:=.cells #[.slice A0_0 l0_0.length c0_0] 24 (0,0)) (bb_ BK1.out) hb);have n5_:=a0_ (blk_below (g:=gb16) (o:=.cells #[.slice Ao42 t33.length co42] 31 (0,0)) (bb_ BK16.out) hb);have n6_:=a0_ (below_step hb_ hb);clear HO_6 HO_9;clear HO_17000 BK1;clear BK16 HB;have HO_6:=n0_;have HO_9:=n1_;have HO_17000:=n2_;have HO42:=n3_;have BK1:=n4_;have BK16:=n5_;have HB:=n6_;clear n0_ n1_ n2_ n3_ n4_ n5_ n6_;(try clear hb);(try clear hb2);(try clear hk);(try clear hi);(try clear ho0)) | ((with_reducible refine gate_callee (f:=14) rfl ?_);refine goesL_ (some 78) rfl rfl Try.func14 (by kernel_rfl) rfl #[.slice A1 l1.length c1] rfl lm_ ?_;(with_reducible refine (laws_toPartS.calls kj28 _ _ l1 t43 _ ?side1 ?side2 A72.out).mono ?_);(case side1=>exact cc_ (Kd.C_below HR1.out HB.out));(case side2=>exact HC1.out);rintro e w103 ⟨v44,rfl,ho0,hb⟩;refine ⟨_,rfl,?_⟩;have n0_:=a0_ (Kd.R_below (rr_ HO_6.out) hb);have n1_:=a0_ (Kd.R_below (rr_ HO_9.out) hb);have n2_:=a0_ (Kd.R_below (rr_ HO_17000.out) hb);have n3_:=a0_ (Kd.R_below (rr_ HO42.out) hb);have n4_:=a0_ (Kd.R_lower ho0 (below_size hb_));have n5_:=a0_ (blk_below (g:=gb1) (o:=.cells #[.slice A0_0 l0_0.length c0_0] 24 (0,0)) (bb_ BK1.out) hb);have n6_:=a0_ (blk_below (g:=gb16) (o:=.cells #[.slice Ao42 t33.length co42] 31 (0,0)) (bb_ BK16.out) hb);have n7_:=a0_ (below_step hb_ hb);clear HO_6 HO_9;clear HO_17000 HO42;clear BK1 BK16 HB;have HO_6:=n0_;have HO_9:=n1_;have HO_17000:=n2_;have HO42:=n3_;have HO45:=n4_;have BK1:=n5_;have BK16:=n6_;have HB:=n7_;clear n0_ n1_ n2_ n3_ n4_ n5_ n6_ n7_;(try clear hb);(try clear hb2);(try clear hk);(try clear hi);(try clear ho0);obtain ⟨Ao104,co104,eo104⟩:=Kd.R_slice HO42.out;subst eo104;obtain ⟨Ao105,co105,eo105⟩:=Kd.R_slice HO45.out;subst eo105) | ((with_reducible refine gate_callee (f:=24) rfl ?_);refine goesL_ (some 79) rfl rfl Try.func24 (by kernel_rfl) rfl #[.agg #[.slice Ao104 t40.length co104],.slice Ao105 t43.length co105] rfl lm_ ?_;(with_reducible refine (impl_LeavesOf.calls kj28 _ _ t40 _ _ t43 t46 _ ?side1 ?side2 ?side3 ?side4 A73.out).mono ?_);(case side1=>repeat (first | exact (Kd.R_reads' HO42.out).2.2 | (with_reducible refine Kd.C_alloc ?_ _) | (with_reducible refine Kd.C_drewN ?_ _) | (with_reducible refine Kd.C_drew ?_)));(case side2=>exact (Kd.R_reads' HO42.out).2.1);(case side3=>repeat (first | exact (Kd.R_reads' HO45.out).2.2 | (with_reducible refine Kd.C_alloc ?_ _) | (with_reducible refine Kd.C_drewN ?_ _) | (with_reducible refine Kd.C_drew ?_)));(case side4=>exact (Kd.R_reads' HO45.out).2.1);rintro e w106 ⟨v47,rfl,ho0,hb⟩;refine ⟨_,rfl,?_⟩;have n0_:=a0_ (Kd.R_elder' (rr_ HO_6.out) (Kd.R_base ho0) hb);have n1_:=a0_ (Kd.R_elder' (rr_ HO_9.out) (Kd.R_base ho0) hb);have n2_:=a0_ (Kd.R_below (rr_ HO_17000.out) hb);have n3_:=a0_ (Kd.R_below (rr_ HO42.out) hb);have n4_:=a0_ (Kd.R_below (rr_ HO45.out) hb);have n5_:=a0_ (Kd.R_lower (Kd.R_new' (Kd.R_new' ho0 (Kd.R_lt (rr_ HO_6.out))) (Kd.R_lt (rr_ HO_9.out))) (below_size hb_));have n6_:=a0_ (blk_below (g:=gb1) (o:=.cells #[.slice A0_0 l0_0.length c0_0] 24 (0,0)) (bb_ BK1.out) hb);have n7_:=a0_ (blk_below (g:=gb16) (o:=.cells #[.slice Ao42 t33.length co42] 31 (0,0)) (bb_ BK16.out) hb);have n8_:=a0_ (below_step hb_ hb);clear HO_6 HO_9;clear HO_17000 HO42;clear HO45 BK1;clear BK16 HB;have HO_6:=n0_;have HO_9:=n1_;have HO_17000:=n2_;have HO42:=n3_;have HO45:=n4_;have HO48:=n5_;have BK1:=n6_;have BK16:=n7_;have HB:=n8_;clear n0_ n1_ n2_ n3_ n4_ n5_ n6_ n7_ n8_;(try clear hb);(try clear hb2);(try clear hk);(try clear hi);(try clear ho0);obtain ⟨Ao107,co107,eo107⟩:=Kd.R_slice HO48.out;subst eo107) | ((with_reducible refine gate_callee (f:=25) rfl ?_);refine goesL_ (some 82) rfl rfl Try.func25 (by kernel_rfl) rfl #[.slice Ao107 t46.length co107,.slice Ao50 t10.length co50] rfl lm_ ?_;(with_reducible refine (laws_eqLeafS.calls kj28 _ _ t46 _ _ t10 true _ ?side1 ?side2 ?side3 ?side4 A74.out).mono ?_);(case side1=>repeat (first | exact (Kd.R_reads' HO48.out).2.2 | (with_reducible refine Kd.C_alloc ?_ _) | (with_reducible refine Kd.C_drewN ?_ _) | (with_reducible refine Kd.C_drew ?_)));(case side2=>exact (Kd.R_reads' HO48.out).2.1);(case side3=>repeat (first | exact (Kd.R_reads' HO_6.out).2.2 | (with_reducible refine Kd.C_alloc ?_ _) | (with_reducible refine Kd.C_drewN ?_ _) | (with_reducible refine Kd.C_drew ?_)));(case side4=>exact (Kd.R_reads' HO_6.out).2.1);rintro e w108 ⟨rfl,hb⟩;refine ⟨_,rfl,?_⟩;have n0_:=a0_ (Kd.R_below (rr_ HO_6.out) hb);have n1_:=a0_ (Kd.R_below (rr_ HO_9.out) hb);have n2_:=a0_ (Kd.R_below (rr_ HO_17000.out) hb);have n3_:=a0_ (Kd.R_below (rr_ HO42.out) hb);have n4_:=a0_ (Kd.R_below (rr_ HO45.out) hb);have n5_:=a0_ (Kd.R_below (rr_ HO48.out) hb);have n6_:=a0_ (blk_below (g:=gb1) (o:=.cells #[.slice A0_0 l0_0.length c0_0] 24 (0,0)) (bb_ BK1.out) hb);have n7_:=a0_ (blk_below (g:=gb16) (o:=.cells #[.slice Ao42 t33.length co42] 31 (0,0)) (bb_ BK16.out) hb);have n8_:=a0_ (below_step hb_ hb);clear HO_6 HO_9;clear HO_17000 HO42;clear HO45 HO48;clear BK1 BK16 HB;have HO_6:=n0_;have HO_9:=n1_;have HO_17000:=n2_;have HO42:=n3_;have HO45:=n4_;have HO48:=n5_;have BK1:=n6_;have BK16:=n7_;have HB:=n8_;clear n0_ n1_ n2_ n3_ n4_ n5_ n6_ n7_ n8_;(try clear hb);(try clear hb2);(try clear hk);(try clear hi)) | ((with_reducible refine gate_callee (f:=27) rfl ?_);refine goesL_ (some 86) rfl rfl Try.func27 (by kernel_rfl) rfl #[.slice Ao49 t38.length co49,.int .i64 1] rfl (by (try simp only [List.map_toArray,List.map_cons,List.map_nil]);first | done | (rw [show t38.length = t20.length from (Kd.R_reads' HO_9.out).1.symm] <;> rfl) | rfl | (simp only [List.length_drop,List.length_take];rfl)) ?_;(with_reducible refine (laws_heldLeafS.calls kj28 _ _ t38 1 t50 _ ?side1 ?side2 A76.out).mono ?_);(case side1=>repeat (first | exact (Kd.R_reads' HO_9.out).2.2 | (with_reducible refine Kd.C_alloc ?_ _) | (with_reducible refine Kd.C_drewN ?_ _) | (with_reducible refine Kd.C_drew ?_)));(case side2=>rw [show t38.length = t20.length from (Kd.R_reads' HO_9.out).1.symm];exact (Kd.R_reads' HO_9.out).2.1);rintro e w' ⟨rfl,⟨nd,rfl⟩⟩;refine ⟨_,rfl,?_⟩))
              go_ret
              exact ⟨by first | rfl | (simp [errW_none,errW_some] <;> rfl) | (simp [*,errW_none,errW_some] <;> rfl),hb_⟩
           ·replace c75:=Bool.eq_false_iff.mpr c75
            subst c75
            have H1 : (some false) = some r:=by rw [if_neg (show ¬ (false = true) by decide)] at H;exact H
            clear H
            have H:=H1
            clear H1
            obtain rfl:=Option.some.inj H
            go_wp2_with (first | ((with_reducible refine gate_callee (f:=26) rfl ?_);refine goesL_ (some 66) rfl rfl Try.func26 (by kernel_rfl) rfl #[.slice Ao49 t20.length co49,.int .i64 1] rfl lm_ ?_;(with_reducible refine (laws_markLeafS.calls kj28 (fun k_=>some k_ = (.slice Ao49 t20.length co49 : Value).ownBlock) (.slice Ao49 t20.length co49) t20 1 t37 t38 w _ ?side1 ?side2 A66.out).mono ?_);(case side1=>repeat (first | (with_reducible first | exact HB.out | apply below_alloc | apply pw_below_drewN | apply below_drew1 | refine below_set ?_ GE1.out | refine below_set ?_ GE16.out) | exact HB.out));(case side2=>exact Kd.R_tight rfl HO_9.out);rintro e w109 ⟨rfl,hy0,hb,hkp⟩;refine ⟨_,rfl,?_⟩;have n0_:=a0_ (Kd.R_mono (ok':=fun k_=>some k_ ≠ (.slice Ao49 t20.length co49 : Value).ownBlock) (Kd.R_keptB (HO_6.out) hkp (fun k_ hk_ hs_=>(hk_) hs_)) (fun k_ hk_=>hk_.1));have n1_:=a0_ (Kd.R_reok rfl hy0 (fun k_ e_=>HO_9.out.1 k_ e_));have n2_:=a0_ (Kd.R_mono (ok':=fun k_=>True) (Kd.R_keptB ((Kd.R_apart' HO_17000.out (Kd.R_typed HO_9.out) (by decide))) hkp (fun k_ hk_ hs_=>(hk_.2) hs_)) (fun k_ hk_=>trivial));have n3_:=a0_ (blk_kept (bb_ BK1.out) hkp (fun hs_=>(fun e_=>(Kd.R_ne HO_9.out BK1.out (by decide)) e_) hs_));have n4_:=a0_ (blk_kept (bb_ BK16.out) hkp (fun hs_=>(fun e_=>(Kd.R_ne HO_9.out BK16.out (by decide)) e_) hs_));have n5_:=a0_ (hb);clear HO_6 HO_9;clear HO_17000 BK1;clear BK16 HB;have HO_6:=n0_;have HO_9:=n1_;have HO_17000:=n2_;have BK1:=n3_;have BK16:=n4_;have HB:=n5_;clear n0_ n1_ n2_ n3_ n4_ n5_;(try clear hb);(try clear hkp);(try clear hy0)) | ((with_reducible refine gate_callee (f:=27) rfl ?_);refine goesL_ (some 69) rfl rfl Try.func27 (by kernel_rfl) rfl #[.slice Ao49 t38.length co49,.int .i64 1] rfl (by (try simp only [List.map_toArray,List.map_cons,List.map_nil]);first | done | (rw [show t38.length = t20.length from (Kd.R_reads' HO_9.out).1.symm] <;> rfl) | rfl | (simp only [List.length_drop,List.length_take];rfl)) ?_;(with_reducible refine (laws_heldLeafS.calls kj28 _ _ t38 1 t39 _ ?side1 ?side2 A67.out).mono ?_);(case side1=>repeat (first | exact (Kd.R_reads' HO_9.out).2.2 | (with_reducible refine Kd.C_alloc ?_ _) | (with_reducible refine Kd.C_drewN ?_ _) | (with_reducible refine Kd.C_drew ?_)));(case side2=>rw [show t38.length = t20.length from (Kd.R_reads' HO_9.out).1.symm];exact (Kd.R_reads' HO_9.out).2.1);rintro e w' ⟨rfl,⟨nd,rfl⟩⟩;refine ⟨_,rfl,?_⟩;have hnb110:=NB1_16.out;have hnc110:=NB16_1.out;have hcz111_0 : w109.cell? ⟨gb1,0,none⟩ = some (.slice A0_0 l0_0.length c0_0):=(blk_cell BK1.out 0).trans rfl;have hfz111_0:=blk_frozen BK1.out 0) | ((with_reducible refine gate_callee (f:=13) rfl ?_);refine goesL_ (some 76) rfl rfl Try.func13 (by kernel_rfl) rfl #[.agg #[.slice A0_0 l0_0.length c0_0]] rfl lm_ ?_;(with_reducible refine (laws_toTree.calls kj28 _ _ l0_0 t40 _ ?side1 ?side2 A71.out).mono ?_);(case side1=>repeat (first | exact (Kd.C_below HR0_0.out hb_) | (with_reducible refine Kd.C_alloc ?_ _) | (with_reducible refine Kd.C_drewN ?_ _) | (with_reducible refine Kd.C_drew ?_)));(case side2=>exact HC0_0.out);rintro e w112 ⟨v41,rfl,ho0,hb⟩;refine ⟨_,rfl,?_⟩;have n0_:=a0_ (Kd.R_below (rr_ HO_6.out) hb);have n1_:=a0_ (Kd.R_below (rr_ HO_9.out) hb);have n2_:=a0_ (Kd.R_elder' (rr_ HO_17000.out) (Kd.R_base ho0) hb);have n3_:=a0_ (Kd.R_lower (Kd.R_new' ho0 (Kd.R_lt (rr_ HO_17000.out))) (below_size hb_));have n4_:=a0_ (blk_below (g:=gb1) (o:=.cells #[.slice A0_0 l0_0.length c0_0] 24 (0,0)) (bb_ BK1.out) hb);have n5_:=a0_ (blk_below (g:=gb16) (o:=.cells #[.slice Ao42 t33.length co42] 31 (0,0)) (bb_ BK16.out) hb);have n6_:=a0_ (below_step hb_ hb);clear HO_6 HO_9;clear HO_17000 BK1;clear BK16 HB;have HO_6:=n0_;have HO_9:=n1_;have HO_17000:=n2_;have HO42:=n3_;have BK1:=n4_;have BK16:=n5_;have HB:=n6_;clear n0_ n1_ n2_ n3_ n4_ n5_ n6_;(try clear hb);(try clear hb2);(try clear hk);(try clear hi);(try clear ho0)) | ((with_reducible refine gate_callee (f:=14) rfl ?_);refine goesL_ (some 78) rfl rfl Try.func14 (by kernel_rfl) rfl #[.slice A1 l1.length c1] rfl lm_ ?_;(with_reducible refine (laws_toPartS.calls kj28 _ _ l1 t43 _ ?side1 ?side2 A72.out).mono ?_);(case side1=>exact cc_ (Kd.C_below HR1.out HB.out));(case side2=>exact HC1.out);rintro e w113 ⟨v44,rfl,ho0,hb⟩;refine ⟨_,rfl,?_⟩;have n0_:=a0_ (Kd.R_below (rr_ HO_6.out) hb);have n1_:=a0_ (Kd.R_below (rr_ HO_9.out) hb);have n2_:=a0_ (Kd.R_below (rr_ HO_17000.out) hb);have n3_:=a0_ (Kd.R_below (rr_ HO42.out) hb);have n4_:=a0_ (Kd.R_lower ho0 (below_size hb_));have n5_:=a0_ (blk_below (g:=gb1) (o:=.cells #[.slice A0_0 l0_0.length c0_0] 24 (0,0)) (bb_ BK1.out) hb);have n6_:=a0_ (blk_below (g:=gb16) (o:=.cells #[.slice Ao42 t33.length co42] 31 (0,0)) (bb_ BK16.out) hb);have n7_:=a0_ (below_step hb_ hb);clear HO_6 HO_9;clear HO_17000 HO42;clear BK1 BK16 HB;have HO_6:=n0_;have HO_9:=n1_;have HO_17000:=n2_;have HO42:=n3_;have HO45:=n4_;have BK1:=n5_;have BK16:=n6_;have HB:=n7_;clear n0_ n1_ n2_ n3_ n4_ n5_ n6_ n7_;(try clear hb);(try clear hb2);(try clear hk);(try clear hi);(try clear ho0);obtain ⟨Ao114,co114,eo114⟩:=Kd.R_slice HO42.out;subst eo114;obtain ⟨Ao115,co115,eo115⟩:=Kd.R_slice HO45.out;subst eo115) | ((with_reducible refine gate_callee (f:=24) rfl ?_);refine goesL_ (some 79) rfl rfl Try.func24 (by kernel_rfl) rfl #[.agg #[.slice Ao114 t40.length co114],.slice Ao115 t43.length co115] rfl lm_ ?_;(with_reducible refine (impl_LeavesOf.calls kj28 _ _ t40 _ _ t43 t46 _ ?side1 ?side2 ?side3 ?side4 A73.out).mono ?_);(case side1=>repeat (first | exact (Kd.R_reads' HO42.out).2.2 | (with_reducible refine Kd.C_alloc ?_ _) | (with_reducible refine Kd.C_drewN ?_ _) | (with_reducible refine Kd.C_drew ?_)));(case side2=>exact (Kd.R_reads' HO42.out).2.1);(case side3=>repeat (first | exact (Kd.R_reads' HO45.out).2.2 | (with_reducible refine Kd.C_alloc ?_ _) | (with_reducible refine Kd.C_drewN ?_ _) | (with_reducible refine Kd.C_drew ?_)));(case side4=>exact (Kd.R_reads' HO45.out).2.1);rintro e w116 ⟨v47,rfl,ho0,hb⟩;refine ⟨_,rfl,?_⟩;have n0_:=a0_ (Kd.R_elder' (rr_ HO_6.out) (Kd.R_base ho0) hb);have n1_:=a0_ (Kd.R_elder' (rr_ HO_9.out) (Kd.R_base ho0) hb);have n2_:=a0_ (Kd.R_below (rr_ HO_17000.out) hb);have n3_:=a0_ (Kd.R_below (rr_ HO42.out) hb);have n4_:=a0_ (Kd.R_below (rr_ HO45.out) hb);have n5_:=a0_ (Kd.R_lower (Kd.R_new' (Kd.R_new' ho0 (Kd.R_lt (rr_ HO_6.out))) (Kd.R_lt (rr_ HO_9.out))) (below_size hb_));have n6_:=a0_ (blk_below (g:=gb1) (o:=.cells #[.slice A0_0 l0_0.length c0_0] 24 (0,0)) (bb_ BK1.out) hb);have n7_:=a0_ (blk_below (g:=gb16) (o:=.cells #[.slice Ao42 t33.length co42] 31 (0,0)) (bb_ BK16.out) hb);have n8_:=a0_ (below_step hb_ hb);clear HO_6 HO_9;clear HO_17000 HO42;clear HO45 BK1;clear BK16 HB;have HO_6:=n0_;have HO_9:=n1_;have HO_17000:=n2_;have HO42:=n3_;have HO45:=n4_;have HO48:=n5_;have BK1:=n6_;have BK16:=n7_;have HB:=n8_;clear n0_ n1_ n2_ n3_ n4_ n5_ n6_ n7_ n8_;(try clear hb);(try clear hb2);(try clear hk);(try clear hi);(try clear ho0);obtain ⟨Ao117,co117,eo117⟩:=Kd.R_slice HO48.out;subst eo117) | ((with_reducible refine gate_callee (f:=25) rfl ?_);refine goesL_ (some 82) rfl rfl Try.func25 (by kernel_rfl) rfl #[.slice Ao117 t46.length co117,.slice Ao50 t10.length co50] rfl lm_ ?_;(with_reducible refine (laws_eqLeafS.calls kj28 _ _ t46 _ _ t10 false _ ?side1 ?side2 ?side3 ?side4 A74.out).mono ?_);(case side1=>repeat (first | exact (Kd.R_reads' HO48.out).2.2 | (with_reducible refine Kd.C_alloc ?_ _) | (with_reducible refine Kd.C_drewN ?_ _) | (with_reducible refine Kd.C_drew ?_)));(case side2=>exact (Kd.R_reads' HO48.out).2.1);(case side3=>repeat (first | exact (Kd.R_reads' HO_6.out).2.2 | (with_reducible refine Kd.C_alloc ?_ _) | (with_reducible refine Kd.C_drewN ?_ _) | (with_reducible refine Kd.C_drew ?_)));(case side4=>exact (Kd.R_reads' HO_6.out).2.1);rintro e w118 ⟨rfl,hb⟩;refine ⟨_,rfl,?_⟩;have n0_:=a0_ (Kd.R_below (rr_ HO_6.out) hb);have n1_:=a0_ (Kd.R_below (rr_ HO_9.out) hb);have n2_:=a0_ (Kd.R_below (rr_ HO_17000.out) hb);have n3_:=a0_ (Kd.R_below (rr_ HO42.out) hb);have n4_:=a0_ (Kd.R_below (rr_ HO45.out) hb);have n5_:=a0_ (Kd.R_below (rr_ HO48.out) hb);have n6_:=a0_ (blk_below (g:=gb1) (o:=.cells #[.slice A0_0 l0_0.length c0_0] 24 (0,0)) (bb_ BK1.out) hb);have n7_:=a0_ (blk_below (g:=gb16) (o:=.cells #[.slice Ao42 t33.length co42] 31 (0,0)) (bb_ BK16.out) hb);have n8_:=a0_ (below_step hb_ hb);clear HO_6 HO_9;clear HO_17000 HO42;clear HO45 HO48;clear BK1 BK16 HB;have HO_6:=n0_;have HO_9:=n1_;have HO_17000:=n2_;have HO42:=n3_;have HO45:=n4_;have HO48:=n5_;have BK1:=n6_;have BK16:=n7_;have HB:=n8_;clear n0_ n1_ n2_ n3_ n4_ n5_ n6_ n7_ n8_;(try clear hb);(try clear hb2);(try clear hk);(try clear hi)))
            go_ret
            exact ⟨by first | rfl | (simp [errW_none,errW_some] <;> rfl) | (simp [*,errW_none,errW_some] <;> rfl),hb_⟩
          ·rw [if_neg c70] at H
           have c70b0 : (t39 == t37) = false:=beq_eq_false_iff_ne.mpr c70
           have c70b1 : (t39 != t37) = true:=bne_iff_ne.mpr c70
           obtain rfl:=Option.some.inj H
           go_wp2_with (first | ((with_reducible refine gate_callee (f:=26) rfl ?_);refine goesL_ (some 66) rfl rfl Try.func26 (by kernel_rfl) rfl #[.slice Ao49 t20.length co49,.int .i64 1] rfl lm_ ?_;(with_reducible refine (laws_markLeafS.calls kj28 (fun k_=>some k_ = (.slice Ao49 t20.length co49 : Value).ownBlock) (.slice Ao49 t20.length co49) t20 1 t37 t38 w _ ?side1 ?side2 A66.out).mono ?_);(case side1=>repeat (first | (with_reducible first | exact HB.out | apply below_alloc | apply pw_below_drewN | apply below_drew1 | refine below_set ?_ GE1.out | refine below_set ?_ GE16.out) | exact HB.out));(case side2=>exact Kd.R_tight rfl HO_9.out);rintro e w119 ⟨rfl,hy0,hb,hkp⟩;refine ⟨_,rfl,?_⟩;have n0_:=a0_ (Kd.R_mono (ok':=fun k_=>some k_ ≠ (.slice Ao49 t20.length co49 : Value).ownBlock) (Kd.R_keptB (HO_6.out) hkp (fun k_ hk_ hs_=>(hk_) hs_)) (fun k_ hk_=>hk_.1));have n1_:=a0_ (Kd.R_reok rfl hy0 (fun k_ e_=>HO_9.out.1 k_ e_));have n2_:=a0_ (Kd.R_mono (ok':=fun k_=>True) (Kd.R_keptB ((Kd.R_apart' HO_17000.out (Kd.R_typed HO_9.out) (by decide))) hkp (fun k_ hk_ hs_=>(hk_.2) hs_)) (fun k_ hk_=>trivial));have n3_:=a0_ (blk_kept (bb_ BK1.out) hkp (fun hs_=>(fun e_=>(Kd.R_ne HO_9.out BK1.out (by decide)) e_) hs_));have n4_:=a0_ (blk_kept (bb_ BK16.out) hkp (fun hs_=>(fun e_=>(Kd.R_ne HO_9.out BK16.out (by decide)) e_) hs_));have n5_:=a0_ (hb);clear HO_6 HO_9;clear HO_17000 BK1;clear BK16 HB;have HO_6:=n0_;have HO_9:=n1_;have HO_17000:=n2_;have BK1:=n3_;have BK16:=n4_;have HB:=n5_;clear n0_ n1_ n2_ n3_ n4_ n5_;(try clear hb);(try clear hkp);(try clear hy0)) | ((with_reducible refine gate_callee (f:=27) rfl ?_);refine goesL_ (some 69) rfl rfl Try.func27 (by kernel_rfl) rfl #[.slice Ao49 t38.length co49,.int .i64 1] rfl (by (try simp only [List.map_toArray,List.map_cons,List.map_nil]);first | done | (rw [show t38.length = t20.length from (Kd.R_reads' HO_9.out).1.symm] <;> rfl) | rfl | (simp only [List.length_drop,List.length_take];rfl)) ?_;(with_reducible refine (laws_heldLeafS.calls kj28 _ _ t38 1 t39 _ ?side1 ?side2 A67.out).mono ?_);(case side1=>repeat (first | exact (Kd.R_reads' HO_9.out).2.2 | (with_reducible refine Kd.C_alloc ?_ _) | (with_reducible refine Kd.C_drewN ?_ _) | (with_reducible refine Kd.C_drew ?_)));(case side2=>rw [show t38.length = t20.length from (Kd.R_reads' HO_9.out).1.symm];exact (Kd.R_reads' HO_9.out).2.1);rintro e w' ⟨rfl,⟨nd,rfl⟩⟩;refine ⟨_,rfl,?_⟩))
           go_ret
           exact ⟨by first | rfl | (simp [errW_none,errW_some] <;> rfl) | (simp [*,errW_none,errW_some] <;> rfl),hb_⟩
     ·replace c26:=Bool.eq_false_iff.mpr c26
      subst c26
      have H1 : (some false) = some r:=by rw [if_neg (show ¬ (false = true) by decide)] at H;exact H
      clear H
      have H:=H1
      clear H1
      obtain rfl:=Option.some.inj H
      go_enter Try.func5,Try.ntmps5
      try go_wp2_with (first | ((with_reducible refine gate_dst (N:=2) rfl ?_);refine box_event ?hg (N:=2) ?hd (cs:=#[.slice A0_0 l0_0.length c0_0]) (t:=24) ?hr ?_;(case hd=>rfl);(case hg=>rfl);(case hr=>first | (go_simp;done) | (go_simp;rfl));intro gb1 hg w120 hbox hb;have n0_:=a0_ (below_step hb_ hb);have n1_:=a0_ (hbox);have n2_:=a0_ ((by rw [hg];exact (below_size hb_) : w.heap.size ≤ gb1));have n3_:=a0_ ((by rw [hg];exact (below_size hb_) : w.heap.size ≤ gb1));clear HB;have HB:=n0_;have BK1:=n1_;have GW1:=n2_;have GE1:=n3_;clear n0_ n1_ n2_ n3_;clear hb hbox hg;have hcz121_0 : w120.cell? ⟨gb1,0,none⟩ = some (.slice A0_0 l0_0.length c0_0):=(blk_cell BK1.out 0).trans rfl;have hfz121_0:=blk_frozen BK1.out 0) | ((with_reducible refine gate_callee (f:=10) rfl ?_);refine goesL_ (some 16) rfl rfl Try.func10 (by kernel_rfl) rfl #[.agg #[.slice A0_0 l0_0.length c0_0],.int .i64 1048576] rfl lm_ ?_;(with_reducible refine (laws_szTree.calls k _ _ l0_0 1048576 t2 _ ?side1 ?side2 A3.out).mono ?_);(case side1=>exact cc_ (Kd.C_below HR0_0.out HB.out));(case side2=>exact HC0_0.out);rintro e w122 ⟨rfl,hb⟩;refine ⟨_,rfl,?_⟩;have n0_:=a0_ (blk_below (g:=gb1) (o:=.cells #[.slice A0_0 l0_0.length c0_0] 24 (0,0)) (bb_ BK1.out) hb);have n1_:=a0_ (below_step hb_ hb);clear BK1 HB;have BK1:=n0_;have HB:=n1_;clear n0_ n1_;(try clear hb);(try clear hb2);(try clear hk);(try clear hi)) | ((with_reducible refine gate_callee (f:=11) rfl ?_);refine goesL_ (some 21) rfl rfl Try.func11 (by kernel_rfl) rfl #[.slice A1 l1.length c1,.int .i64 t2] rfl lm_ ?_;(with_reducible refine (laws_szPartS.calls _ _ l1 t2 t3 _ ?side1 ?side2 A8.out).mono ?_);(case side1=>exact cc_ (Kd.C_below HR1.out HB.out));(case side2=>exact HC1.out);rintro e w' ⟨rfl,⟨nd,rfl⟩⟩;refine ⟨_,rfl,?_⟩;(try (rw [drewN_self w122];generalize hq_ : World.drewN w122 _ = w122;have n0_ : Aside0 (w122.heap[gb1]? = some (.cells #[.slice A0_0 l0_0.length c0_0] 24 (0,0))):=⟨by rw [← hq_];exact (bb_ BK1.out)⟩;have n1_ : Aside0 (Below w.heap.size w w122):=⟨by rw [← hq_];exact hb_⟩;clear BK1 HB hq_;have BK1:=n0_;have HB:=n1_;clear n0_ n1_));have hcz123_0 : w122.cell? ⟨gb1,0,none⟩ = some (.slice A0_0 l0_0.length c0_0):=(blk_cell BK1.out 0).trans rfl;have hfz123_0:=blk_frozen BK1.out 0) | ((with_reducible refine gate_callee (f:=13) rfl ?_);refine goesL_ (some 25) rfl rfl Try.func13 (by kernel_rfl) rfl #[.agg #[.slice A0_0 l0_0.length c0_0]] rfl lm_ ?_;(with_reducible refine (laws_toTree.calls k _ _ l0_0 t4 _ ?side1 ?side2 A13.out).mono ?_);(case side1=>exact cc_ (Kd.C_below HR0_0.out HB.out));(case side2=>exact HC0_0.out);rintro e w124 ⟨v5,rfl,ho0,hb⟩;refine ⟨_,rfl,?_⟩;have n0_:=a0_ (Kd.R_lower ho0 (below_size hb_));have n1_:=a0_ (blk_below (g:=gb1) (o:=.cells #[.slice A0_0 l0_0.length c0_0] 24 (0,0)) (bb_ BK1.out) hb);have n2_:=a0_ (below_step hb_ hb);clear BK1 HB;have HO6:=n0_;have BK1:=n1_;have HB:=n2_;clear n0_ n1_ n2_;(try clear hb);(try clear hb2);(try clear hk);(try clear hi);(try clear ho0)) | ((with_reducible refine gate_callee (f:=14) rfl ?_);refine goesL_ (some 27) rfl rfl Try.func14 (by kernel_rfl) rfl #[.slice A1 l1.length c1] rfl lm_ ?_;(with_reducible refine (laws_toPartS.calls k _ _ l1 t7 _ ?side1 ?side2 A14.out).mono ?_);(case side1=>exact cc_ (Kd.C_below HR1.out HB.out));(case side2=>exact HC1.out);rintro e w125 ⟨v8,rfl,ho0,hb⟩;refine ⟨_,rfl,?_⟩;have n0_:=a0_ (Kd.R_below (rr_ HO6.out) hb);have n1_:=a0_ (Kd.R_lower ho0 (below_size hb_));have n2_:=a0_ (blk_below (g:=gb1) (o:=.cells #[.slice A0_0 l0_0.length c0_0] 24 (0,0)) (bb_ BK1.out) hb);have n3_:=a0_ (below_step hb_ hb);clear HO6 BK1 HB;have HO6:=n0_;have HO9:=n1_;have BK1:=n2_;have HB:=n3_;clear n0_ n1_ n2_ n3_;(try clear hb);(try clear hb2);(try clear hk);(try clear hi);(try clear ho0);obtain ⟨Ao126,co126,eo126⟩:=Kd.R_slice HO6.out;subst eo126;obtain ⟨Ao127,co127,eo127⟩:=Kd.R_slice HO9.out;subst eo127) | ((with_reducible refine gate_callee (f:=23) rfl ?_);refine goesL_ (some 28) rfl rfl Try.func23 (by kernel_rfl) rfl #[.agg #[.slice Ao126 t4.length co126],.slice Ao127 t7.length co127] rfl lm_ ?_;(with_reducible refine (spec_LeavesOf.calls k _ _ t4 _ _ t7 t10 _ ?side1 ?side2 ?side3 ?side4 A15.out).mono ?_);(case side1=>repeat (first | exact (Kd.R_reads' HO6.out).2.2 | (with_reducible refine Kd.C_alloc ?_ _) | (with_reducible refine Kd.C_drewN ?_ _) | (with_reducible refine Kd.C_drew ?_)));(case side2=>exact (Kd.R_reads' HO6.out).2.1);(case side3=>repeat (first | exact (Kd.R_reads' HO9.out).2.2 | (with_reducible refine Kd.C_alloc ?_ _) | (with_reducible refine Kd.C_drewN ?_ _) | (with_reducible refine Kd.C_drew ?_)));(case side4=>exact (Kd.R_reads' HO9.out).2.1);rintro e w128 ⟨v11,rfl,ho0,hb⟩;refine ⟨_,rfl,?_⟩;have n0_:=a0_ (Kd.R_below (rr_ HO6.out) hb);have n1_:=a0_ (Kd.R_below (rr_ HO9.out) hb);have n2_:=a0_ (Kd.R_lower ho0 (below_size hb_));have n3_:=a0_ (blk_below (g:=gb1) (o:=.cells #[.slice A0_0 l0_0.length c0_0] 24 (0,0)) (bb_ BK1.out) hb);have n4_:=a0_ (below_step hb_ hb);clear HO6 HO9;clear BK1 HB;have HO6:=n0_;have HO9:=n1_;have HO12:=n2_;have BK1:=n3_;have HB:=n4_;clear n0_ n1_ n2_ n3_ n4_;(try clear hb);(try clear hb2);(try clear hk);(try clear hi);(try clear ho0);have hcz129_0 : w128.cell? ⟨gb1,0,none⟩ = some (.slice A0_0 l0_0.length c0_0):=(blk_cell BK1.out 0).trans rfl;have hfz129_0:=blk_frozen BK1.out 0) | ((with_reducible refine gate_callee (f:=13) rfl ?_);refine goesL_ (some 30) rfl rfl Try.func13 (by kernel_rfl) rfl #[.agg #[.slice A0_0 l0_0.length c0_0]] rfl lm_ ?_;(with_reducible refine (laws_toTree.calls k _ _ l0_0 t13 _ ?side1 ?side2 A16.out).mono ?_);(case side1=>exact cc_ (Kd.C_below HR0_0.out HB.out));(case side2=>exact HC0_0.out);rintro e w130 ⟨v14,rfl,ho0,hb⟩;refine ⟨_,rfl,?_⟩;have n0_:=a0_ (Kd.R_elder' (rr_ HO6.out) (Kd.R_base ho0) hb);have n1_:=a0_ (Kd.R_below (rr_ HO9.out) hb);have n2_:=a0_ (Kd.R_below (rr_ HO12.out) hb);have n3_:=a0_ (Kd.R_lower (Kd.R_new' ho0 (Kd.R_lt (rr_ HO6.out))) (below_size hb_));have n4_:=a0_ (blk_below (g:=gb1) (o:=.cells #[.slice A0_0 l0_0.length c0_0] 24 (0,0)) (bb_ BK1.out) hb);have n5_:=a0_ (below_step hb_ hb);clear HO6 HO9;clear HO12 BK1 HB;have HO6:=n0_;have HO9:=n1_;have HO12:=n2_;have HO15:=n3_;have BK1:=n4_;have HB:=n5_;clear n0_ n1_ n2_ n3_ n4_ n5_;(try clear hb);(try clear hb2);(try clear hk);(try clear hi);(try clear ho0)) | ((with_reducible refine gate_dst (N:=7) rfl ?_);refine box_event ?hg (N:=7) ?hd (cs:=#[.slice none 0 0]) (t:=31) ?hr ?_;(case hd=>rfl);(case hg=>rfl);(case hr=>first | (go_simp;done) | (go_simp;rfl));intro gb16 hg w131 hbox hb;have n0_:=a0_ (Kd.R_below (rr_ HO6.out) hb);have n1_:=a0_ (Kd.R_below (rr_ HO9.out) hb);have n2_:=a0_ (Kd.R_below (rr_ HO12.out) hb);have n3_:=a0_ (Kd.R_below (rr_ HO15.out) hb);have n4_:=a0_ (blk_below (g:=gb1) (o:=.cells #[.slice A0_0 l0_0.length c0_0] 24 (0,0)) (bb_ BK1.out) hb);have n5_:=a0_ (below_step hb_ hb);have n6_:=a0_ (hbox);have n7_:=a0_ ((by rw [hg];exact (below_size hb_) : w.heap.size ≤ gb16));have n8_:=a0_ ((by rw [hg];exact (below_size hb_) : w.heap.size ≤ gb16));have n9_:=a0_ ((by rw [hg];exact Nat.ne_of_lt (blk_lt (g:=gb1) (o:=.cells #[.slice A0_0 l0_0.length c0_0] 24 (0,0)) (bb_ BK1.out)) : gb1 ≠ gb16));have n10_:=a0_ ((by rw [hg];exact Nat.ne_of_gt (blk_lt (g:=gb1) (o:=.cells #[.slice A0_0 l0_0.length c0_0] 24 (0,0)) (bb_ BK1.out)) : gb16 ≠ gb1));clear HO6 HO9;clear HO12 HO15;clear BK1 HB;have HO6:=n0_;have HO9:=n1_;have HO12:=n2_;have HO15:=n3_;have BK1:=n4_;have HB:=n5_;have BK16:=n6_;have GW16:=n7_;have GE16:=n8_;have NB1_16:=n9_;have NB16_1:=n10_;clear n0_ n1_ n2_ n3_ n4_ n5_ n6_ n7_ n8_ n9_ n10_;clear hb hbox hg;obtain ⟨Ao132,co132,eo132⟩:=Kd.R_slice HO15.out;subst eo132;have hnb133:=NB16_1.out;have hnc133:=NB1_16.out;have hcz134_0 : w131.cell? ⟨gb16,0,none⟩ = some (.slice none 0 0):=(blk_cell BK16.out 0).trans rfl;have hfz134_0:=blk_frozen BK16.out 0) | ((with_reducible refine gate_callee (f:=14) rfl ?_);refine goesL_ (some 32) rfl rfl Try.func14 (by kernel_rfl) rfl #[.slice A1 l1.length c1] rfl lm_ ?_;(with_reducible refine (laws_toPartS.calls k _ _ l1 t17 _ ?side1 ?side2 A17.out).mono ?_);(case side1=>exact Kd.C_below HR1.out hb_);(case side2=>exact HC1.out);rintro e w135 ⟨v18,rfl,ho0,hb⟩;refine ⟨_,rfl,?_⟩;have n0_:=a0_ (Kd.R_below (by (with_reducible repeat (first | apply Kd.R_alloc | apply Kd.R_drewN | apply Kd.R_drew));exact (Kd.R_mono (Kd.R_far (p:=⟨gb16,0,none⟩) (Kd.R_types HO6.out BK16.out (by decide)) (fun _ hk=>hk.2) (.slice Ao132 t13.length co132)) (fun _ h_=>h_.1))) hb);have n1_:=a0_ (Kd.R_elder' (by (with_reducible repeat (first | apply Kd.R_alloc | apply Kd.R_drewN | apply Kd.R_drew));exact (Kd.R_mono (Kd.R_far (p:=⟨gb16,0,none⟩) (Kd.R_types HO9.out BK16.out (by decide)) (fun _ hk=>hk.2) (.slice Ao132 t13.length co132)) (fun _ h_=>h_.1))) (Kd.R_base ho0) hb);have n2_:=a0_ (Kd.R_below (by (with_reducible repeat (first | apply Kd.R_alloc | apply Kd.R_drewN | apply Kd.R_drew));exact (Kd.R_mono (Kd.R_far (p:=⟨gb16,0,none⟩) (Kd.R_types HO12.out BK16.out (by decide)) (fun _ hk=>hk.2) (.slice Ao132 t13.length co132)) (fun _ h_=>h_.1))) hb);have n3_:=a0_ (Kd.R_below (by (with_reducible repeat (first | apply Kd.R_alloc | apply Kd.R_drewN | apply Kd.R_drew));exact (Kd.R_mono (Kd.R_far (p:=⟨gb16,0,none⟩) (Kd.R_types HO15.out BK16.out (by decide)) (fun _ hk=>hk.2) (.slice Ao132 t13.length co132)) (fun _ h_=>h_.1))) hb);have n4_:=a0_ (Kd.R_lower (Kd.R_new' ho0 (Kd.R_lt (by (with_reducible repeat (first | apply Kd.R_alloc | apply Kd.R_drewN | apply Kd.R_drew));exact (Kd.R_mono (Kd.R_far (p:=⟨gb16,0,none⟩) (Kd.R_types HO9.out BK16.out (by decide)) (fun _ hk=>hk.2) (.slice Ao132 t13.length co132)) (fun _ h_=>h_.1))))) (below_size hb_));have n5_:=a0_ (blk_below (g:=gb1) (o:=.cells #[.slice A0_0 l0_0.length c0_0] 24 (0,0)) (by (with_reducible repeat (first | refine blk_drewN ?_ _ | refine blk_drew ?_ | refine blk_alloc ?_ _));refine blk_far ?_ NB1_16.out _;(with_reducible repeat (first | refine blk_drewN ?_ _ | refine blk_drew ?_ | refine blk_alloc ?_ _));exact BK1.out) hb);have n6_:=a0_ (blk_below (g:=gb16) (o:=.cells #[.slice Ao132 t13.length co132] 31 (0,0)) (by (with_reducible repeat (first | refine blk_drewN ?_ _ | refine blk_drew ?_ | refine blk_alloc ?_ _));refine blk_put (cs:=#[.slice none 0 0]) ?_ 0 _ rfl;(with_reducible repeat (first | refine blk_drewN ?_ _ | refine blk_drew ?_ | refine blk_alloc ?_ _));exact BK16.out) hb);have n7_:=a0_ (below_step hb_ hb);clear HO6 HO9;clear HO12 HO15;clear BK1 BK16 HB;have HO6:=n0_;have HO9:=n1_;have HO12:=n2_;have HO15:=n3_;have HO19:=n4_;have BK1:=n5_;have BK16:=n6_;have HB:=n7_;clear n0_ n1_ n2_ n3_ n4_ n5_ n6_ n7_;(try clear hb);(try clear hb2);(try clear hk);(try clear hi);(try clear ho0);have hcz136_0 : w135.cell? ⟨gb16,0,none⟩ = some (.slice Ao132 t13.length co132):=(blk_cell BK16.out 0).trans rfl;have hfz136_0:=blk_frozen BK16.out 0;obtain ⟨Ao137,co137,eo137⟩:=Kd.R_slice HO19.out;subst eo137) | ((with_reducible refine gate_callee (f:=24) rfl ?_);refine goesL_ (some 35) rfl rfl Try.func24 (by kernel_rfl) rfl #[.agg #[.slice Ao132 t13.length co132],.slice Ao137 t17.length co137] rfl lm_ ?_;(with_reducible refine (impl_LeavesOf.calls k _ _ t13 _ _ t17 t20 _ ?side1 ?side2 ?side3 ?side4 A18.out).mono ?_);(case side1=>repeat (first | exact (Kd.R_reads' HO15.out).2.2 | (with_reducible refine Kd.C_alloc ?_ _) | (with_reducible refine Kd.C_drewN ?_ _) | (with_reducible refine Kd.C_drew ?_)));(case side2=>exact (Kd.R_reads' HO15.out).2.1);(case side3=>repeat (first | exact (Kd.R_reads' HO19.out).2.2 | (with_reducible refine Kd.C_alloc ?_ _) | (with_reducible refine Kd.C_drewN ?_ _) | (with_reducible refine Kd.C_drew ?_)));(case side4=>exact (Kd.R_reads' HO19.out).2.1);rintro e w138 ⟨v21,rfl,ho0,hb⟩;refine ⟨_,rfl,?_⟩;have n0_:=a0_ (Kd.R_below (rr_ HO6.out) hb);have n1_:=a0_ (Kd.R_below (rr_ HO9.out) hb);have n2_:=a0_ (Kd.R_elder' (rr_ HO12.out) (Kd.R_base ho0) hb);have n3_:=a0_ (Kd.R_below (rr_ HO15.out) hb);have n4_:=a0_ (Kd.R_below (rr_ HO19.out) hb);have n5_:=a0_ (Kd.R_lower (Kd.R_new' ho0 (Kd.R_lt (rr_ HO12.out))) (below_size hb_));have n6_:=a0_ (blk_below (g:=gb1) (o:=.cells #[.slice A0_0 l0_0.length c0_0] 24 (0,0)) (bb_ BK1.out) hb);have n7_:=a0_ (blk_below (g:=gb16) (o:=.cells #[.slice Ao132 t13.length co132] 31 (0,0)) (bb_ BK16.out) hb);have n8_:=a0_ (below_step hb_ hb);clear HO6 HO9;clear HO12 HO15;clear HO19 BK1;clear BK16 HB;have HO6:=n0_;have HO9:=n1_;have HO12:=n2_;have HO15:=n3_;have HO19:=n4_;have HO22:=n5_;have BK1:=n6_;have BK16:=n7_;have HB:=n8_;clear n0_ n1_ n2_ n3_ n4_ n5_ n6_ n7_ n8_;(try clear hb);(try clear hb2);(try clear hk);(try clear hi);(try clear ho0);obtain ⟨Ao139,co139,eo139⟩:=Kd.R_slice HO22.out;subst eo139;obtain ⟨Ao140,co140,eo140⟩:=Kd.R_slice HO12.out;subst eo140) | ((with_reducible refine gate_callee (f:=25) rfl ?_);refine goesL_ (some 38) rfl rfl Try.func25 (by kernel_rfl) rfl #[.slice Ao139 t20.length co139,.slice Ao140 t10.length co140] rfl lm_ ?_;(with_reducible refine (laws_eqLeafS.calls k _ _ t20 _ _ t10 true _ ?side1 ?side2 ?side3 ?side4 A19.out).mono ?_);(case side1=>repeat (first | exact (Kd.R_reads' HO22.out).2.2 | (with_reducible refine Kd.C_alloc ?_ _) | (with_reducible refine Kd.C_drewN ?_ _) | (with_reducible refine Kd.C_drew ?_)));(case side2=>exact (Kd.R_reads' HO22.out).2.1);(case side3=>repeat (first | exact (Kd.R_reads' HO12.out).2.2 | (with_reducible refine Kd.C_alloc ?_ _) | (with_reducible refine Kd.C_drewN ?_ _) | (with_reducible refine Kd.C_drew ?_)));(case side4=>exact (Kd.R_reads' HO12.out).2.1);rintro e w141 ⟨rfl,hb⟩;refine ⟨_,rfl,?_⟩;have n0_:=a0_ (Kd.R_below (rr_ HO6.out) hb);have n1_:=a0_ (Kd.R_below (rr_ HO9.out) hb);have n2_:=a0_ (Kd.R_below (rr_ HO12.out) hb);have n3_:=a0_ (Kd.R_below (rr_ HO15.out) hb);have n4_:=a0_ (Kd.R_below (rr_ HO19.out) hb);have n5_:=a0_ (Kd.R_below (rr_ HO22.out) hb);have n6_:=a0_ (blk_below (g:=gb1) (o:=.cells #[.slice A0_0 l0_0.length c0_0] 24 (0,0)) (bb_ BK1.out) hb);have n7_:=a0_ (blk_below (g:=gb16) (o:=.cells #[.slice Ao132 t13.length co132] 31 (0,0)) (bb_ BK16.out) hb);have n8_:=a0_ (below_step hb_ hb);clear HO6 HO9;clear HO12 HO15;clear HO19 HO22;clear BK1 BK16 HB;have HO6:=n0_;have HO9:=n1_;have HO12:=n2_;have HO15:=n3_;have HO19:=n4_;have HO22:=n5_;have BK1:=n6_;have BK16:=n7_;have HB:=n8_;clear n0_ n1_ n2_ n3_ n4_ n5_ n6_ n7_ n8_;(try clear hb);(try clear hb2);(try clear hk);(try clear hi)))
      have n0_:=a0_ (Kd.R_drew HO6.out)
      have n1_:=a0_ (Kd.R_drew HO9.out)
      have n2_:=a0_ (Kd.R_drew HO12.out)
      have n3_:=a0_ (Kd.R_drew HO15.out)
      have n4_:=a0_ (Kd.R_drew HO19.out)
      have n5_:=a0_ (Kd.R_drew HO22.out)
      have n6_:=a0_ (blk_drew BK1.out)
      have n7_:=a0_ (blk_drew BK16.out)
      have n8_:=a0_ (below_drew1 HB.out)
      clear HO6
      clear HO9
      clear HO12
      clear HO15
      clear HO19
      clear HO22
      clear BK1
      clear BK16
      clear HB
      have HO6:=n0_
      have HO9:=n1_
      have HO12:=n2_
      have HO15:=n3_
      have HO19:=n4_
      have HO22:=n5_
      have BK1:=n6_
      have BK16:=n7_
      have HB:=n8_
      clear n0_ n1_ n2_ n3_ n4_ n5_ n6_ n7_ n8_
      refine start_ (n:=5) (S:=fun w'=>w'.cell? ⟨gb16,0,none⟩ = some (.slice Ao132 t13.length co132) ∧ w'.cell? ⟨gb1,0,none⟩ = some (.slice A0_0 l0_0.length c0_0)) (ds:=[]) #[false,false,false,false,false] (by kernel_rfl) rfl rfl ⟨(blk_cell BK16.out 0).trans rfl,(blk_cell BK1.out 0).trans rfl⟩ (fun hHeld=>?_)
      generalize w141.drew = w142 at HO6 HO9 HO12 HO15 HO19 HO22 BK1 BK16 HB hHeld ⊢
      refine take_ (i:=0) (N:=some 40) (v:=?_) (a':=?_) #[true,false,false,false,false] rfl rfl (by kernel_rfl) (fun _ _ _ h=>h) (Or.inl ⟨by rfl,?_⟩) hHeld ?_ ?_
      rotate_left
      ·rintro w' ⟨s0,s1⟩
       go_simp
       with_reducible rfl
      rotate_left
      ·simp only [Act.put,List.setIfInBounds_toArray,List.set_cons_zero,List.set_cons_succ,i64_w,i32_w]
       rfl
      refine take_ (i:=1) (N:=some 41) (v:=?_) (a':=?_) #[true,true,false,false,false] rfl rfl (by kernel_rfl) (fun _ _ _ h=>h) (Or.inl ⟨by rfl,?_⟩) hHeld ?_ ?_
      rotate_left
      ·rintro w' ⟨s0,s1⟩
       go_simp
       with_reducible rfl
      rotate_left
      ·simp only [Act.put,List.setIfInBounds_toArray,List.set_cons_zero,List.set_cons_succ,i64_w,i32_w]
       rfl
      refine one_ (i:=2) (N:=some 42) #[true,true,true,false,false] rfl rfl (by kernel_rfl) (by decide) (fun K hK=>?_)
      refine goes_ Try.func13 (by kernel_rfl) rfl #[.agg #[.slice A0_0 l0_0.length c0_0]] (by rfl) rfl rfl lm_ ?_
      with_reducible refine (laws_toTree.calls k _ _ l0_0 t24 _ ?side1 ?side2 A21.out).mono ?_
      (case side1=>exact cc_ (Kd.C_below HR0_0.out HB.out))
      (case side2=>exact HC0_0.out)
      rintro e w143 ⟨v25,rfl,ho0,hb⟩
      refine ⟨_,rfl,?_⟩
      have n0_:=a0_ (Kd.R_elder' (rr_ HO6.out) (Kd.R_base ho0) hb)
      have n1_:=a0_ (Kd.R_below (rr_ HO9.out) hb)
      have n2_:=a0_ (Kd.R_below (rr_ HO12.out) hb)
      have n3_:=a0_ (Kd.R_elder' (rr_ HO15.out) (Kd.R_base ho0) hb)
      have n4_:=a0_ (Kd.R_below (rr_ HO19.out) hb)
      have n5_:=a0_ (Kd.R_below (rr_ HO22.out) hb)
      have n6_:=a0_ (Kd.R_lower (Kd.R_new' (Kd.R_new' ho0 (Kd.R_lt (rr_ HO6.out))) (Kd.R_lt (rr_ HO15.out))) (below_size hb_))
      have n7_:=a0_ (blk_below (g:=gb1) (o:=.cells #[.slice A0_0 l0_0.length c0_0] 24 (0,0)) (bb_ BK1.out) hb)
      have n8_:=a0_ (blk_below (g:=gb16) (o:=.cells #[.slice Ao132 t13.length co132] 31 (0,0)) (bb_ BK16.out) hb)
      have n9_:=a0_ (below_step hb_ hb)
      clear HO6
      clear HO9
      clear HO12
      clear HO15
      clear HO19
      clear HO22
      clear BK1
      clear BK16
      clear HB
      have HO6:=n0_
      have HO9:=n1_
      have HO12:=n2_
      have HO15:=n3_
      have HO19:=n4_
      have HO22:=n5_
      have HO26:=n6_
      have BK1:=n7_
      have BK16:=n8_
      have HB:=n9_
      clear n0_ n1_ n2_ n3_ n4_ n5_ n6_ n7_ n8_ n9_
      (try clear hb)
      (try clear hb2)
      (try clear hk)
      (try clear hi)
      (try clear ho0)
      obtain ⟨Ao144,co144,eo144⟩:=Kd.R_slice HO26.out
      (first | subst eo144 | (injection eo144 with f1_ f2_ f3_;have f4_:=f1_.symm;have f5_:=f3_.symm;clear f1_ f2_ f3_;subst f4_;subst f5_))
      refine hK.out _ _ ⟨(blk_cell BK16.out 0).trans rfl,(blk_cell BK1.out 0).trans rfl⟩ (fun hHeld=>?_)
      clear hK K
      refine norm_ (a':=?_) ?_ ?_
      rotate_left
      ·show Act.put _ (some 42) _ = _
       simp only [Act.put,List.setIfInBounds_toArray,List.set_cons_zero,List.set_cons_succ,i64_w,i32_w]
       rfl
      refine one_ (i:=3) (N:=some 43) #[true,true,true,true,false] rfl rfl (by kernel_rfl) (by decide) (fun K hK=>?_)
      refine goes_ Try.func16 (by kernel_rfl) rfl #[.agg #[.slice Ao132 t13.length co132],.agg #[.slice Ao144 t24.length co144]] (by rfl) rfl rfl lm_ ?_
      with_reducible refine (laws_eqTree.calls k _ _ t13 _ _ t24 true _ ?side1 ?side2 ?side3 ?side4 A22.out).mono ?_
      (case side1=>repeat (first | exact (Kd.R_reads' HO15.out).2.2 | (with_reducible refine Kd.C_alloc ?_ _) | (with_reducible refine Kd.C_drewN ?_ _) | (with_reducible refine Kd.C_drew ?_)))
      (case side2=>exact (Kd.R_reads' HO15.out).2.1)
      (case side3=>repeat (first | exact (Kd.R_reads' HO26.out).2.2 | (with_reducible refine Kd.C_alloc ?_ _) | (with_reducible refine Kd.C_drewN ?_ _) | (with_reducible refine Kd.C_drew ?_)))
      (case side4=>exact (Kd.R_reads' HO26.out).2.1)
      rintro e w145 ⟨rfl,hb⟩
      refine ⟨_,rfl,?_⟩
      have n0_:=a0_ (Kd.R_below (rr_ HO6.out) hb)
      have n1_:=a0_ (Kd.R_below (rr_ HO9.out) hb)
      have n2_:=a0_ (Kd.R_below (rr_ HO12.out) hb)
      have n3_:=a0_ (Kd.R_below (rr_ HO15.out) hb)
      have n4_:=a0_ (Kd.R_below (rr_ HO19.out) hb)
      have n5_:=a0_ (Kd.R_below (rr_ HO22.out) hb)
      have n6_:=a0_ (Kd.R_below (rr_ HO26.out) hb)
      have n7_:=a0_ (blk_below (g:=gb1) (o:=.cells #[.slice A0_0 l0_0.length c0_0] 24 (0,0)) (bb_ BK1.out) hb)
      have n8_:=a0_ (blk_below (g:=gb16) (o:=.cells #[.slice Ao132 t13.length co132] 31 (0,0)) (bb_ BK16.out) hb)
      have n9_:=a0_ (below_step hb_ hb)
      clear HO6
      clear HO9
      clear HO12
      clear HO15
      clear HO19
      clear HO22
      clear HO26
      clear BK1
      clear BK16
      clear HB
      have HO6:=n0_
      have HO9:=n1_
      have HO12:=n2_
      have HO15:=n3_
      have HO19:=n4_
      have HO22:=n5_
      have HO26:=n6_
      have BK1:=n7_
      have BK16:=n8_
      have HB:=n9_
      clear n0_ n1_ n2_ n3_ n4_ n5_ n6_ n7_ n8_ n9_
      (try clear hb)
      (try clear hb2)
      (try clear hk)
      (try clear hi)
      refine hK.out _ _ ⟨(blk_cell BK16.out 0).trans rfl,(blk_cell BK1.out 0).trans rfl⟩ (fun hHeld=>?_)
      clear hK K
      refine norm_ (a':=?_) ?_ ?_
      rotate_left
      ·show Act.put _ (some 43) _ = _
       simp only [Act.put,List.setIfInBounds_toArray,List.set_cons_zero,List.set_cons_succ,i64_w,i32_w]
       rfl
      refine pure_ (i:=4) (N:=some 44) (v:=?_) (a':=?_) #[true,true,true,true,true] rfl rfl (by kernel_rfl) (fun _ _ _ h=>h) (Or.inl ⟨by rfl,?_⟩) ?_ ?_
      rotate_left
      ·intro w'
       go_simp
       with_reducible rfl
      rotate_left
      ·simp only [Act.put,List.setIfInBounds_toArray,List.set_cons_zero,List.set_cons_succ,i64_w,i32_w]
       rfl
      refine done_ (by kernel_rfl) ?_
      try go_wp2_with (first | ((with_reducible refine gate_callee (f:=14) rfl ?_);refine goesL_ (some 47) rfl rfl Try.func14 (by kernel_rfl) rfl #[.slice A1 l1.length c1] rfl lm_ ?_;(with_reducible refine (laws_toPartS.calls k _ _ l1 t28 _ ?side1 ?side2 A24.out).mono ?_);(case side1=>exact cc_ (Kd.C_below HR1.out HB.out));(case side2=>exact HC1.out);rintro e w146 ⟨v29,rfl,ho0,hb⟩;refine ⟨_,rfl,?_⟩;have n0_:=a0_ (Kd.R_below (rr_ HO6.out) hb);have n1_:=a0_ (Kd.R_elder' (rr_ HO9.out) (Kd.R_base ho0) hb);have n2_:=a0_ (Kd.R_below (rr_ HO12.out) hb);have n3_:=a0_ (Kd.R_below (rr_ HO15.out) hb);have n4_:=a0_ (Kd.R_elder' (rr_ HO19.out) (Kd.R_base ho0) hb);have n5_:=a0_ (Kd.R_below (rr_ HO22.out) hb);have n6_:=a0_ (Kd.R_below (rr_ HO26.out) hb);have n7_:=a0_ (Kd.R_lower (Kd.R_new' (Kd.R_new' ho0 (Kd.R_lt (rr_ HO9.out))) (Kd.R_lt (rr_ HO19.out))) (below_size hb_));have n8_:=a0_ (blk_below (g:=gb1) (o:=.cells #[.slice A0_0 l0_0.length c0_0] 24 (0,0)) (bb_ BK1.out) hb);have n9_:=a0_ (blk_below (g:=gb16) (o:=.cells #[.slice Ao132 t13.length co132] 31 (0,0)) (bb_ BK16.out) hb);have n10_:=a0_ (below_step hb_ hb);clear HO6 HO9;clear HO12 HO15;clear HO19 HO22;clear HO26 BK1;clear BK16 HB;have HO6:=n0_;have HO9:=n1_;have HO12:=n2_;have HO15:=n3_;have HO19:=n4_;have HO22:=n5_;have HO26:=n6_;have HO30:=n7_;have BK1:=n8_;have BK16:=n9_;have HB:=n10_;clear n0_ n1_ n2_ n3_ n4_ n5_ n6_ n7_ n8_ n9_ n10_;(try clear hb);(try clear hb2);(try clear hk);(try clear hi);(try clear ho0);obtain ⟨Ao147,co147,eo147⟩:=Kd.R_slice HO30.out;subst eo147) | ((with_reducible refine gate_callee (f:=17) rfl ?_);refine goesL_ (some 48) rfl rfl Try.func17 (by kernel_rfl) rfl #[.slice Ao137 t17.length co137,.slice Ao147 t28.length co147] rfl lm_ ?_;(with_reducible refine (laws_eqPartS.calls k _ _ t17 _ _ t28 false _ ?side1 ?side2 ?side3 ?side4 A25.out).mono ?_);(case side1=>repeat (first | exact (Kd.R_reads' HO19.out).2.2 | (with_reducible refine Kd.C_alloc ?_ _) | (with_reducible refine Kd.C_drewN ?_ _) | (with_reducible refine Kd.C_drew ?_)));(case side2=>exact (Kd.R_reads' HO19.out).2.1);(case side3=>repeat (first | exact (Kd.R_reads' HO30.out).2.2 | (with_reducible refine Kd.C_alloc ?_ _) | (with_reducible refine Kd.C_drewN ?_ _) | (with_reducible refine Kd.C_drew ?_)));(case side4=>exact (Kd.R_reads' HO30.out).2.1);rintro e w148 ⟨rfl,hb⟩;refine ⟨_,rfl,?_⟩;have n0_:=a0_ (Kd.R_below (rr_ HO6.out) hb);have n1_:=a0_ (Kd.R_below (rr_ HO9.out) hb);have n2_:=a0_ (Kd.R_below (rr_ HO12.out) hb);have n3_:=a0_ (Kd.R_below (rr_ HO15.out) hb);have n4_:=a0_ (Kd.R_below (rr_ HO19.out) hb);have n5_:=a0_ (Kd.R_below (rr_ HO22.out) hb);have n6_:=a0_ (Kd.R_below (rr_ HO26.out) hb);have n7_:=a0_ (Kd.R_below (rr_ HO30.out) hb);have n8_:=a0_ (blk_below (g:=gb1) (o:=.cells #[.slice A0_0 l0_0.length c0_0] 24 (0,0)) (bb_ BK1.out) hb);have n9_:=a0_ (blk_below (g:=gb16) (o:=.cells #[.slice Ao132 t13.length co132] 31 (0,0)) (bb_ BK16.out) hb);have n10_:=a0_ (below_step hb_ hb);clear HO6 HO9;clear HO12 HO15;clear HO19 HO22;clear HO26 HO30;clear BK1 BK16 HB;have HO6:=n0_;have HO9:=n1_;have HO12:=n2_;have HO15:=n3_;have HO19:=n4_;have HO22:=n5_;have HO26:=n6_;have HO30:=n7_;have BK1:=n8_;have BK16:=n9_;have HB:=n10_;clear n0_ n1_ n2_ n3_ n4_ n5_ n6_ n7_ n8_ n9_ n10_;(try clear hb);(try clear hb2);(try clear hk);(try clear hi)))
      go_ret
      exact ⟨by first | rfl | (simp [errW_none,errW_some] <;> rfl) | (simp [*,errW_none,errW_some] <;> rfl),hb_⟩
    ·replace c23:=Bool.eq_false_iff.mpr c23
     subst c23
     have H1 : (some false) = some r:=by rw [if_neg (show ¬ (false = true) by decide)] at H;exact H
     clear H
     have H:=H1
     clear H1
     obtain rfl:=Option.some.inj H
     go_enter Try.func5,Try.ntmps5
     try go_wp2_with (first | ((with_reducible refine gate_dst (N:=2) rfl ?_);refine box_event ?hg (N:=2) ?hd (cs:=#[.slice A0_0 l0_0.length c0_0]) (t:=24) ?hr ?_;(case hd=>rfl);(case hg=>rfl);(case hr=>first | (go_simp;done) | (go_simp;rfl));intro gb1 hg w149 hbox hb;have n0_:=a0_ (below_step hb_ hb);have n1_:=a0_ (hbox);have n2_:=a0_ ((by rw [hg];exact (below_size hb_) : w.heap.size ≤ gb1));have n3_:=a0_ ((by rw [hg];exact (below_size hb_) : w.heap.size ≤ gb1));clear HB;have HB:=n0_;have BK1:=n1_;have GW1:=n2_;have GE1:=n3_;clear n0_ n1_ n2_ n3_;clear hb hbox hg;have hcz150_0 : w149.cell? ⟨gb1,0,none⟩ = some (.slice A0_0 l0_0.length c0_0):=(blk_cell BK1.out 0).trans rfl;have hfz150_0:=blk_frozen BK1.out 0) | ((with_reducible refine gate_callee (f:=10) rfl ?_);refine goesL_ (some 16) rfl rfl Try.func10 (by kernel_rfl) rfl #[.agg #[.slice A0_0 l0_0.length c0_0],.int .i64 1048576] rfl lm_ ?_;(with_reducible refine (laws_szTree.calls k _ _ l0_0 1048576 t2 _ ?side1 ?side2 A3.out).mono ?_);(case side1=>exact cc_ (Kd.C_below HR0_0.out HB.out));(case side2=>exact HC0_0.out);rintro e w151 ⟨rfl,hb⟩;refine ⟨_,rfl,?_⟩;have n0_:=a0_ (blk_below (g:=gb1) (o:=.cells #[.slice A0_0 l0_0.length c0_0] 24 (0,0)) (bb_ BK1.out) hb);have n1_:=a0_ (below_step hb_ hb);clear BK1 HB;have BK1:=n0_;have HB:=n1_;clear n0_ n1_;(try clear hb);(try clear hb2);(try clear hk);(try clear hi)) | ((with_reducible refine gate_callee (f:=11) rfl ?_);refine goesL_ (some 21) rfl rfl Try.func11 (by kernel_rfl) rfl #[.slice A1 l1.length c1,.int .i64 t2] rfl lm_ ?_;(with_reducible refine (laws_szPartS.calls _ _ l1 t2 t3 _ ?side1 ?side2 A8.out).mono ?_);(case side1=>exact cc_ (Kd.C_below HR1.out HB.out));(case side2=>exact HC1.out);rintro e w' ⟨rfl,⟨nd,rfl⟩⟩;refine ⟨_,rfl,?_⟩;(try (rw [drewN_self w151];generalize hq_ : World.drewN w151 _ = w151;have n0_ : Aside0 (w151.heap[gb1]? = some (.cells #[.slice A0_0 l0_0.length c0_0] 24 (0,0))):=⟨by rw [← hq_];exact (bb_ BK1.out)⟩;have n1_ : Aside0 (Below w.heap.size w w151):=⟨by rw [← hq_];exact hb_⟩;clear BK1 HB hq_;have BK1:=n0_;have HB:=n1_;clear n0_ n1_));have hcz152_0 : w151.cell? ⟨gb1,0,none⟩ = some (.slice A0_0 l0_0.length c0_0):=(blk_cell BK1.out 0).trans rfl;have hfz152_0:=blk_frozen BK1.out 0) | ((with_reducible refine gate_callee (f:=13) rfl ?_);refine goesL_ (some 25) rfl rfl Try.func13 (by kernel_rfl) rfl #[.agg #[.slice A0_0 l0_0.length c0_0]] rfl lm_ ?_;(with_reducible refine (laws_toTree.calls k _ _ l0_0 t4 _ ?side1 ?side2 A13.out).mono ?_);(case side1=>exact cc_ (Kd.C_below HR0_0.out HB.out));(case side2=>exact HC0_0.out);rintro e w153 ⟨v5,rfl,ho0,hb⟩;refine ⟨_,rfl,?_⟩;have n0_:=a0_ (Kd.R_lower ho0 (below_size hb_));have n1_:=a0_ (blk_below (g:=gb1) (o:=.cells #[.slice A0_0 l0_0.length c0_0] 24 (0,0)) (bb_ BK1.out) hb);have n2_:=a0_ (below_step hb_ hb);clear BK1 HB;have HO6:=n0_;have BK1:=n1_;have HB:=n2_;clear n0_ n1_ n2_;(try clear hb);(try clear hb2);(try clear hk);(try clear hi);(try clear ho0)) | ((with_reducible refine gate_callee (f:=14) rfl ?_);refine goesL_ (some 27) rfl rfl Try.func14 (by kernel_rfl) rfl #[.slice A1 l1.length c1] rfl lm_ ?_;(with_reducible refine (laws_toPartS.calls k _ _ l1 t7 _ ?side1 ?side2 A14.out).mono ?_);(case side1=>exact cc_ (Kd.C_below HR1.out HB.out));(case side2=>exact HC1.out);rintro e w154 ⟨v8,rfl,ho0,hb⟩;refine ⟨_,rfl,?_⟩;have n0_:=a0_ (Kd.R_below (rr_ HO6.out) hb);have n1_:=a0_ (Kd.R_lower ho0 (below_size hb_));have n2_:=a0_ (blk_below (g:=gb1) (o:=.cells #[.slice A0_0 l0_0.length c0_0] 24 (0,0)) (bb_ BK1.out) hb);have n3_:=a0_ (below_step hb_ hb);clear HO6 BK1 HB;have HO6:=n0_;have HO9:=n1_;have BK1:=n2_;have HB:=n3_;clear n0_ n1_ n2_ n3_;(try clear hb);(try clear hb2);(try clear hk);(try clear hi);(try clear ho0);obtain ⟨Ao155,co155,eo155⟩:=Kd.R_slice HO6.out;subst eo155;obtain ⟨Ao156,co156,eo156⟩:=Kd.R_slice HO9.out;subst eo156) | ((with_reducible refine gate_callee (f:=23) rfl ?_);refine goesL_ (some 28) rfl rfl Try.func23 (by kernel_rfl) rfl #[.agg #[.slice Ao155 t4.length co155],.slice Ao156 t7.length co156] rfl lm_ ?_;(with_reducible refine (spec_LeavesOf.calls k _ _ t4 _ _ t7 t10 _ ?side1 ?side2 ?side3 ?side4 A15.out).mono ?_);(case side1=>repeat (first | exact (Kd.R_reads' HO6.out).2.2 | (with_reducible refine Kd.C_alloc ?_ _) | (with_reducible refine Kd.C_drewN ?_ _) | (with_reducible refine Kd.C_drew ?_)));(case side2=>exact (Kd.R_reads' HO6.out).2.1);(case side3=>repeat (first | exact (Kd.R_reads' HO9.out).2.2 | (with_reducible refine Kd.C_alloc ?_ _) | (with_reducible refine Kd.C_drewN ?_ _) | (with_reducible refine Kd.C_drew ?_)));(case side4=>exact (Kd.R_reads' HO9.out).2.1);rintro e w157 ⟨v11,rfl,ho0,hb⟩;refine ⟨_,rfl,?_⟩;have n0_:=a0_ (Kd.R_below (rr_ HO6.out) hb);have n1_:=a0_ (Kd.R_below (rr_ HO9.out) hb);have n2_:=a0_ (Kd.R_lower ho0 (below_size hb_));have n3_:=a0_ (blk_below (g:=gb1) (o:=.cells #[.slice A0_0 l0_0.length c0_0] 24 (0,0)) (bb_ BK1.out) hb);have n4_:=a0_ (below_step hb_ hb);clear HO6 HO9;clear BK1 HB;have HO6:=n0_;have HO9:=n1_;have HO12:=n2_;have BK1:=n3_;have HB:=n4_;clear n0_ n1_ n2_ n3_ n4_;(try clear hb);(try clear hb2);(try clear hk);(try clear hi);(try clear ho0);have hcz158_0 : w157.cell? ⟨gb1,0,none⟩ = some (.slice A0_0 l0_0.length c0_0):=(blk_cell BK1.out 0).trans rfl;have hfz158_0:=blk_frozen BK1.out 0) | ((with_reducible refine gate_callee (f:=13) rfl ?_);refine goesL_ (some 30) rfl rfl Try.func13 (by kernel_rfl) rfl #[.agg #[.slice A0_0 l0_0.length c0_0]] rfl lm_ ?_;(with_reducible refine (laws_toTree.calls k _ _ l0_0 t13 _ ?side1 ?side2 A16.out).mono ?_);(case side1=>exact cc_ (Kd.C_below HR0_0.out HB.out));(case side2=>exact HC0_0.out);rintro e w159 ⟨v14,rfl,ho0,hb⟩;refine ⟨_,rfl,?_⟩;have n0_:=a0_ (Kd.R_elder' (rr_ HO6.out) (Kd.R_base ho0) hb);have n1_:=a0_ (Kd.R_below (rr_ HO9.out) hb);have n2_:=a0_ (Kd.R_below (rr_ HO12.out) hb);have n3_:=a0_ (Kd.R_lower (Kd.R_new' ho0 (Kd.R_lt (rr_ HO6.out))) (below_size hb_));have n4_:=a0_ (blk_below (g:=gb1) (o:=.cells #[.slice A0_0 l0_0.length c0_0] 24 (0,0)) (bb_ BK1.out) hb);have n5_:=a0_ (below_step hb_ hb);clear HO6 HO9;clear HO12 BK1 HB;have HO6:=n0_;have HO9:=n1_;have HO12:=n2_;have HO15:=n3_;have BK1:=n4_;have HB:=n5_;clear n0_ n1_ n2_ n3_ n4_ n5_;(try clear hb);(try clear hb2);(try clear hk);(try clear hi);(try clear ho0)) | ((with_reducible refine gate_dst (N:=7) rfl ?_);refine box_event ?hg (N:=7) ?hd (cs:=#[.slice none 0 0]) (t:=31) ?hr ?_;(case hd=>rfl);(case hg=>rfl);(case hr=>first | (go_simp;done) | (go_simp;rfl));intro gb16 hg w160 hbox hb;have n0_:=a0_ (Kd.R_below (rr_ HO6.out) hb);have n1_:=a0_ (Kd.R_below (rr_ HO9.out) hb);have n2_:=a0_ (Kd.R_below (rr_ HO12.out) hb);have n3_:=a0_ (Kd.R_below (rr_ HO15.out) hb);have n4_:=a0_ (blk_below (g:=gb1) (o:=.cells #[.slice A0_0 l0_0.length c0_0] 24 (0,0)) (bb_ BK1.out) hb);have n5_:=a0_ (below_step hb_ hb);have n6_:=a0_ (hbox);have n7_:=a0_ ((by rw [hg];exact (below_size hb_) : w.heap.size ≤ gb16));have n8_:=a0_ ((by rw [hg];exact (below_size hb_) : w.heap.size ≤ gb16));have n9_:=a0_ ((by rw [hg];exact Nat.ne_of_lt (blk_lt (g:=gb1) (o:=.cells #[.slice A0_0 l0_0.length c0_0] 24 (0,0)) (bb_ BK1.out)) : gb1 ≠ gb16));have n10_:=a0_ ((by rw [hg];exact Nat.ne_of_gt (blk_lt (g:=gb1) (o:=.cells #[.slice A0_0 l0_0.length c0_0] 24 (0,0)) (bb_ BK1.out)) : gb16 ≠ gb1));clear HO6 HO9;clear HO12 HO15;clear BK1 HB;have HO6:=n0_;have HO9:=n1_;have HO12:=n2_;have HO15:=n3_;have BK1:=n4_;have HB:=n5_;have BK16:=n6_;have GW16:=n7_;have GE16:=n8_;have NB1_16:=n9_;have NB16_1:=n10_;clear n0_ n1_ n2_ n3_ n4_ n5_ n6_ n7_ n8_ n9_ n10_;clear hb hbox hg;obtain ⟨Ao161,co161,eo161⟩:=Kd.R_slice HO15.out;subst eo161;have hnb162:=NB16_1.out;have hnc162:=NB1_16.out;have hcz163_0 : w160.cell? ⟨gb16,0,none⟩ = some (.slice none 0 0):=(blk_cell BK16.out 0).trans rfl;have hfz163_0:=blk_frozen BK16.out 0) | ((with_reducible refine gate_callee (f:=14) rfl ?_);refine goesL_ (some 32) rfl rfl Try.func14 (by kernel_rfl) rfl #[.slice A1 l1.length c1] rfl lm_ ?_;(with_reducible refine (laws_toPartS.calls k _ _ l1 t17 _ ?side1 ?side2 A17.out).mono ?_);(case side1=>exact Kd.C_below HR1.out hb_);(case side2=>exact HC1.out);rintro e w164 ⟨v18,rfl,ho0,hb⟩;refine ⟨_,rfl,?_⟩;have n0_:=a0_ (Kd.R_below (by (with_reducible repeat (first | apply Kd.R_alloc | apply Kd.R_drewN | apply Kd.R_drew));exact (Kd.R_mono (Kd.R_far (p:=⟨gb16,0,none⟩) (Kd.R_types HO6.out BK16.out (by decide)) (fun _ hk=>hk.2) (.slice Ao161 t13.length co161)) (fun _ h_=>h_.1))) hb);have n1_:=a0_ (Kd.R_elder' (by (with_reducible repeat (first | apply Kd.R_alloc | apply Kd.R_drewN | apply Kd.R_drew));exact (Kd.R_mono (Kd.R_far (p:=⟨gb16,0,none⟩) (Kd.R_types HO9.out BK16.out (by decide)) (fun _ hk=>hk.2) (.slice Ao161 t13.length co161)) (fun _ h_=>h_.1))) (Kd.R_base ho0) hb);have n2_:=a0_ (Kd.R_below (by (with_reducible repeat (first | apply Kd.R_alloc | apply Kd.R_drewN | apply Kd.R_drew));exact (Kd.R_mono (Kd.R_far (p:=⟨gb16,0,none⟩) (Kd.R_types HO12.out BK16.out (by decide)) (fun _ hk=>hk.2) (.slice Ao161 t13.length co161)) (fun _ h_=>h_.1))) hb);have n3_:=a0_ (Kd.R_below (by (with_reducible repeat (first | apply Kd.R_alloc | apply Kd.R_drewN | apply Kd.R_drew));exact (Kd.R_mono (Kd.R_far (p:=⟨gb16,0,none⟩) (Kd.R_types HO15.out BK16.out (by decide)) (fun _ hk=>hk.2) (.slice Ao161 t13.length co161)) (fun _ h_=>h_.1))) hb);have n4_:=a0_ (Kd.R_lower (Kd.R_new' ho0 (Kd.R_lt (by (with_reducible repeat (first | apply Kd.R_alloc | apply Kd.R_drewN | apply Kd.R_drew));exact (Kd.R_mono (Kd.R_far (p:=⟨gb16,0,none⟩) (Kd.R_types HO9.out BK16.out (by decide)) (fun _ hk=>hk.2) (.slice Ao161 t13.length co161)) (fun _ h_=>h_.1))))) (below_size hb_));have n5_:=a0_ (blk_below (g:=gb1) (o:=.cells #[.slice A0_0 l0_0.length c0_0] 24 (0,0)) (by (with_reducible repeat (first | refine blk_drewN ?_ _ | refine blk_drew ?_ | refine blk_alloc ?_ _));refine blk_far ?_ NB1_16.out _;(with_reducible repeat (first | refine blk_drewN ?_ _ | refine blk_drew ?_ | refine blk_alloc ?_ _));exact BK1.out) hb);have n6_:=a0_ (blk_below (g:=gb16) (o:=.cells #[.slice Ao161 t13.length co161] 31 (0,0)) (by (with_reducible repeat (first | refine blk_drewN ?_ _ | refine blk_drew ?_ | refine blk_alloc ?_ _));refine blk_put (cs:=#[.slice none 0 0]) ?_ 0 _ rfl;(with_reducible repeat (first | refine blk_drewN ?_ _ | refine blk_drew ?_ | refine blk_alloc ?_ _));exact BK16.out) hb);have n7_:=a0_ (below_step hb_ hb);clear HO6 HO9;clear HO12 HO15;clear BK1 BK16 HB;have HO6:=n0_;have HO9:=n1_;have HO12:=n2_;have HO15:=n3_;have HO19:=n4_;have BK1:=n5_;have BK16:=n6_;have HB:=n7_;clear n0_ n1_ n2_ n3_ n4_ n5_ n6_ n7_;(try clear hb);(try clear hb2);(try clear hk);(try clear hi);(try clear ho0);have hcz165_0 : w164.cell? ⟨gb16,0,none⟩ = some (.slice Ao161 t13.length co161):=(blk_cell BK16.out 0).trans rfl;have hfz165_0:=blk_frozen BK16.out 0;obtain ⟨Ao166,co166,eo166⟩:=Kd.R_slice HO19.out;subst eo166) | ((with_reducible refine gate_callee (f:=24) rfl ?_);refine goesL_ (some 35) rfl rfl Try.func24 (by kernel_rfl) rfl #[.agg #[.slice Ao161 t13.length co161],.slice Ao166 t17.length co166] rfl lm_ ?_;(with_reducible refine (impl_LeavesOf.calls k _ _ t13 _ _ t17 t20 _ ?side1 ?side2 ?side3 ?side4 A18.out).mono ?_);(case side1=>repeat (first | exact (Kd.R_reads' HO15.out).2.2 | (with_reducible refine Kd.C_alloc ?_ _) | (with_reducible refine Kd.C_drewN ?_ _) | (with_reducible refine Kd.C_drew ?_)));(case side2=>exact (Kd.R_reads' HO15.out).2.1);(case side3=>repeat (first | exact (Kd.R_reads' HO19.out).2.2 | (with_reducible refine Kd.C_alloc ?_ _) | (with_reducible refine Kd.C_drewN ?_ _) | (with_reducible refine Kd.C_drew ?_)));(case side4=>exact (Kd.R_reads' HO19.out).2.1);rintro e w167 ⟨v21,rfl,ho0,hb⟩;refine ⟨_,rfl,?_⟩;have n0_:=a0_ (Kd.R_below (rr_ HO6.out) hb);have n1_:=a0_ (Kd.R_below (rr_ HO9.out) hb);have n2_:=a0_ (Kd.R_elder' (rr_ HO12.out) (Kd.R_base ho0) hb);have n3_:=a0_ (Kd.R_below (rr_ HO15.out) hb);have n4_:=a0_ (Kd.R_below (rr_ HO19.out) hb);have n5_:=a0_ (Kd.R_lower (Kd.R_new' ho0 (Kd.R_lt (rr_ HO12.out))) (below_size hb_));have n6_:=a0_ (blk_below (g:=gb1) (o:=.cells #[.slice A0_0 l0_0.length c0_0] 24 (0,0)) (bb_ BK1.out) hb);have n7_:=a0_ (blk_below (g:=gb16) (o:=.cells #[.slice Ao161 t13.length co161] 31 (0,0)) (bb_ BK16.out) hb);have n8_:=a0_ (below_step hb_ hb);clear HO6 HO9;clear HO12 HO15;clear HO19 BK1;clear BK16 HB;have HO6:=n0_;have HO9:=n1_;have HO12:=n2_;have HO15:=n3_;have HO19:=n4_;have HO22:=n5_;have BK1:=n6_;have BK16:=n7_;have HB:=n8_;clear n0_ n1_ n2_ n3_ n4_ n5_ n6_ n7_ n8_;(try clear hb);(try clear hb2);(try clear hk);(try clear hi);(try clear ho0);obtain ⟨Ao168,co168,eo168⟩:=Kd.R_slice HO22.out;subst eo168;obtain ⟨Ao169,co169,eo169⟩:=Kd.R_slice HO12.out;subst eo169) | ((with_reducible refine gate_callee (f:=25) rfl ?_);refine goesL_ (some 38) rfl rfl Try.func25 (by kernel_rfl) rfl #[.slice Ao168 t20.length co168,.slice Ao169 t10.length co169] rfl lm_ ?_;(with_reducible refine (laws_eqLeafS.calls k _ _ t20 _ _ t10 true _ ?side1 ?side2 ?side3 ?side4 A19.out).mono ?_);(case side1=>repeat (first | exact (Kd.R_reads' HO22.out).2.2 | (with_reducible refine Kd.C_alloc ?_ _) | (with_reducible refine Kd.C_drewN ?_ _) | (with_reducible refine Kd.C_drew ?_)));(case side2=>exact (Kd.R_reads' HO22.out).2.1);(case side3=>repeat (first | exact (Kd.R_reads' HO12.out).2.2 | (with_reducible refine Kd.C_alloc ?_ _) | (with_reducible refine Kd.C_drewN ?_ _) | (with_reducible refine Kd.C_drew ?_)));(case side4=>exact (Kd.R_reads' HO12.out).2.1);rintro e w170 ⟨rfl,hb⟩;refine ⟨_,rfl,?_⟩;have n0_:=a0_ (Kd.R_below (rr_ HO6.out) hb);have n1_:=a0_ (Kd.R_below (rr_ HO9.out) hb);have n2_:=a0_ (Kd.R_below (rr_ HO12.out) hb);have n3_:=a0_ (Kd.R_below (rr_ HO15.out) hb);have n4_:=a0_ (Kd.R_below (rr_ HO19.out) hb);have n5_:=a0_ (Kd.R_below (rr_ HO22.out) hb);have n6_:=a0_ (blk_below (g:=gb1) (o:=.cells #[.slice A0_0 l0_0.length c0_0] 24 (0,0)) (bb_ BK1.out) hb);have n7_:=a0_ (blk_below (g:=gb16) (o:=.cells #[.slice Ao161 t13.length co161] 31 (0,0)) (bb_ BK16.out) hb);have n8_:=a0_ (below_step hb_ hb);clear HO6 HO9;clear HO12 HO15;clear HO19 HO22;clear BK1 BK16 HB;have HO6:=n0_;have HO9:=n1_;have HO12:=n2_;have HO15:=n3_;have HO19:=n4_;have HO22:=n5_;have BK1:=n6_;have BK16:=n7_;have HB:=n8_;clear n0_ n1_ n2_ n3_ n4_ n5_ n6_ n7_ n8_;(try clear hb);(try clear hb2);(try clear hk);(try clear hi)))
     have n0_:=a0_ (Kd.R_drew HO6.out)
     have n1_:=a0_ (Kd.R_drew HO9.out)
     have n2_:=a0_ (Kd.R_drew HO12.out)
     have n3_:=a0_ (Kd.R_drew HO15.out)
     have n4_:=a0_ (Kd.R_drew HO19.out)
     have n5_:=a0_ (Kd.R_drew HO22.out)
     have n6_:=a0_ (blk_drew BK1.out)
     have n7_:=a0_ (blk_drew BK16.out)
     have n8_:=a0_ (below_drew1 HB.out)
     clear HO6
     clear HO9
     clear HO12
     clear HO15
     clear HO19
     clear HO22
     clear BK1
     clear BK16
     clear HB
     have HO6:=n0_
     have HO9:=n1_
     have HO12:=n2_
     have HO15:=n3_
     have HO19:=n4_
     have HO22:=n5_
     have BK1:=n6_
     have BK16:=n7_
     have HB:=n8_
     clear n0_ n1_ n2_ n3_ n4_ n5_ n6_ n7_ n8_
     refine start_ (n:=5) (S:=fun w'=>w'.cell? ⟨gb16,0,none⟩ = some (.slice Ao161 t13.length co161) ∧ w'.cell? ⟨gb1,0,none⟩ = some (.slice A0_0 l0_0.length c0_0)) (ds:=[]) #[false,false,false,false,false] (by kernel_rfl) rfl rfl ⟨(blk_cell BK16.out 0).trans rfl,(blk_cell BK1.out 0).trans rfl⟩ (fun hHeld=>?_)
     generalize w170.drew = w171 at HO6 HO9 HO12 HO15 HO19 HO22 BK1 BK16 HB hHeld ⊢
     refine take_ (i:=0) (N:=some 40) (v:=?_) (a':=?_) #[true,false,false,false,false] rfl rfl (by kernel_rfl) (fun _ _ _ h=>h) (Or.inl ⟨by rfl,?_⟩) hHeld ?_ ?_
     rotate_left
     ·rintro w' ⟨s0,s1⟩
      go_simp
      with_reducible rfl
     rotate_left
     ·simp only [Act.put,List.setIfInBounds_toArray,List.set_cons_zero,List.set_cons_succ,i64_w,i32_w]
      rfl
     refine take_ (i:=1) (N:=some 41) (v:=?_) (a':=?_) #[true,true,false,false,false] rfl rfl (by kernel_rfl) (fun _ _ _ h=>h) (Or.inl ⟨by rfl,?_⟩) hHeld ?_ ?_
     rotate_left
     ·rintro w' ⟨s0,s1⟩
      go_simp
      with_reducible rfl
     rotate_left
     ·simp only [Act.put,List.setIfInBounds_toArray,List.set_cons_zero,List.set_cons_succ,i64_w,i32_w]
      rfl
     refine one_ (i:=2) (N:=some 42) #[true,true,true,false,false] rfl rfl (by kernel_rfl) (by decide) (fun K hK=>?_)
     refine goes_ Try.func13 (by kernel_rfl) rfl #[.agg #[.slice A0_0 l0_0.length c0_0]] (by rfl) rfl rfl lm_ ?_
     with_reducible refine (laws_toTree.calls k _ _ l0_0 t24 _ ?side1 ?side2 A21.out).mono ?_
     (case side1=>exact cc_ (Kd.C_below HR0_0.out HB.out))
     (case side2=>exact HC0_0.out)
     rintro e w172 ⟨v25,rfl,ho0,hb⟩
     refine ⟨_,rfl,?_⟩
     have n0_:=a0_ (Kd.R_elder' (rr_ HO6.out) (Kd.R_base ho0) hb)
     have n1_:=a0_ (Kd.R_below (rr_ HO9.out) hb)
     have n2_:=a0_ (Kd.R_below (rr_ HO12.out) hb)
     have n3_:=a0_ (Kd.R_elder' (rr_ HO15.out) (Kd.R_base ho0) hb)
     have n4_:=a0_ (Kd.R_below (rr_ HO19.out) hb)
     have n5_:=a0_ (Kd.R_below (rr_ HO22.out) hb)
     have n6_:=a0_ (Kd.R_lower (Kd.R_new' (Kd.R_new' ho0 (Kd.R_lt (rr_ HO6.out))) (Kd.R_lt (rr_ HO15.out))) (below_size hb_))
     have n7_:=a0_ (blk_below (g:=gb1) (o:=.cells #[.slice A0_0 l0_0.length c0_0] 24 (0,0)) (bb_ BK1.out) hb)
     have n8_:=a0_ (blk_below (g:=gb16) (o:=.cells #[.slice Ao161 t13.length co161] 31 (0,0)) (bb_ BK16.out) hb)
     have n9_:=a0_ (below_step hb_ hb)
     clear HO6
     clear HO9
     clear HO12
     clear HO15
     clear HO19
     clear HO22
     clear BK1
     clear BK16
     clear HB
     have HO6:=n0_
     have HO9:=n1_
     have HO12:=n2_
     have HO15:=n3_
     have HO19:=n4_
     have HO22:=n5_
     have HO26:=n6_
     have BK1:=n7_
     have BK16:=n8_
     have HB:=n9_
     clear n0_ n1_ n2_ n3_ n4_ n5_ n6_ n7_ n8_ n9_
     (try clear hb)
     (try clear hb2)
     (try clear hk)
     (try clear hi)
     (try clear ho0)
     obtain ⟨Ao173,co173,eo173⟩:=Kd.R_slice HO26.out
     (first | subst eo173 | (injection eo173 with f1_ f2_ f3_;have f4_:=f1_.symm;have f5_:=f3_.symm;clear f1_ f2_ f3_;subst f4_;subst f5_))
     refine hK.out _ _ ⟨(blk_cell BK16.out 0).trans rfl,(blk_cell BK1.out 0).trans rfl⟩ (fun hHeld=>?_)
     clear hK K
     refine norm_ (a':=?_) ?_ ?_
     rotate_left
     ·show Act.put _ (some 42) _ = _
      simp only [Act.put,List.setIfInBounds_toArray,List.set_cons_zero,List.set_cons_succ,i64_w,i32_w]
      rfl
     refine one_ (i:=3) (N:=some 43) #[true,true,true,true,false] rfl rfl (by kernel_rfl) (by decide) (fun K hK=>?_)
     refine goes_ Try.func16 (by kernel_rfl) rfl #[.agg #[.slice Ao161 t13.length co161],.agg #[.slice Ao173 t24.length co173]] (by rfl) rfl rfl lm_ ?_
     with_reducible refine (laws_eqTree.calls k _ _ t13 _ _ t24 false _ ?side1 ?side2 ?side3 ?side4 A22.out).mono ?_
     (case side1=>repeat (first | exact (Kd.R_reads' HO15.out).2.2 | (with_reducible refine Kd.C_alloc ?_ _) | (with_reducible refine Kd.C_drewN ?_ _) | (with_reducible refine Kd.C_drew ?_)))
     (case side2=>exact (Kd.R_reads' HO15.out).2.1)
     (case side3=>repeat (first | exact (Kd.R_reads' HO26.out).2.2 | (with_reducible refine Kd.C_alloc ?_ _) | (with_reducible refine Kd.C_drewN ?_ _) | (with_reducible refine Kd.C_drew ?_)))
     (case side4=>exact (Kd.R_reads' HO26.out).2.1)
     rintro e w174 ⟨rfl,hb⟩
     refine ⟨_,rfl,?_⟩
     have n0_:=a0_ (Kd.R_below (rr_ HO6.out) hb)
     have n1_:=a0_ (Kd.R_below (rr_ HO9.out) hb)
     have n2_:=a0_ (Kd.R_below (rr_ HO12.out) hb)
     have n3_:=a0_ (Kd.R_below (rr_ HO15.out) hb)
     have n4_:=a0_ (Kd.R_below (rr_ HO19.out) hb)
     have n5_:=a0_ (Kd.R_below (rr_ HO22.out) hb)
     have n6_:=a0_ (Kd.R_below (rr_ HO26.out) hb)
     have n7_:=a0_ (blk_below (g:=gb1) (o:=.cells #[.slice A0_0 l0_0.length c0_0] 24 (0,0)) (bb_ BK1.out) hb)
     have n8_:=a0_ (blk_below (g:=gb16) (o:=.cells #[.slice Ao161 t13.length co161] 31 (0,0)) (bb_ BK16.out) hb)
     have n9_:=a0_ (below_step hb_ hb)
     clear HO6
     clear HO9
     clear HO12
     clear HO15
     clear HO19
     clear HO22
     clear HO26
     clear BK1
     clear BK16
     clear HB
     have HO6:=n0_
     have HO9:=n1_
     have HO12:=n2_
     have HO15:=n3_
     have HO19:=n4_
     have HO22:=n5_
     have HO26:=n6_
     have BK1:=n7_
     have BK16:=n8_
     have HB:=n9_
     clear n0_ n1_ n2_ n3_ n4_ n5_ n6_ n7_ n8_ n9_
     (try clear hb)
     (try clear hb2)
     (try clear hk)
     (try clear hi)
     refine hK.out _ _ ⟨(blk_cell BK16.out 0).trans rfl,(blk_cell BK1.out 0).trans rfl⟩ (fun hHeld=>?_)
     clear hK K
     refine norm_ (a':=?_) ?_ ?_
     rotate_left
     ·show Act.put _ (some 43) _ = _
      simp only [Act.put,List.setIfInBounds_toArray,List.set_cons_zero,List.set_cons_succ,i64_w,i32_w]
      rfl
     refine pure_ (i:=4) (N:=some 44) (v:=?_) (a':=?_) #[true,true,true,true,true] rfl rfl (by kernel_rfl) (fun _ _ _ h=>h) (Or.inl ⟨by rfl,?_⟩) ?_ ?_
     rotate_left
     ·intro w'
      go_simp
      with_reducible rfl
     rotate_left
     ·simp only [Act.put,List.setIfInBounds_toArray,List.set_cons_zero,List.set_cons_succ,i64_w,i32_w]
      rfl
     refine done_ (by kernel_rfl) ?_
     try go_wp2
     go_ret
     exact ⟨by first | rfl | (simp [errW_none,errW_some] <;> rfl) | (simp [*,errW_none,errW_some] <;> rfl),hb_⟩
   ·replace c20:=Bool.eq_false_iff.mpr c20
    subst c20
    have H1 : (some false) = some r:=by rw [if_neg (show ¬ (false = true) by decide)] at H;exact H
    clear H
    have H:=H1
    clear H1
    obtain rfl:=Option.some.inj H
    go_enter Try.func5,Try.ntmps5
    go_wp2_with (first | ((with_reducible refine gate_dst (N:=2) rfl ?_);refine box_event ?hg (N:=2) ?hd (cs:=#[.slice A0_0 l0_0.length c0_0]) (t:=24) ?hr ?_;(case hd=>rfl);(case hg=>rfl);(case hr=>first | (go_simp;done) | (go_simp;rfl));intro gb1 hg w175 hbox hb;have n0_:=a0_ (below_step hb_ hb);have n1_:=a0_ (hbox);have n2_:=a0_ ((by rw [hg];exact (below_size hb_) : w.heap.size ≤ gb1));have n3_:=a0_ ((by rw [hg];exact (below_size hb_) : w.heap.size ≤ gb1));clear HB;have HB:=n0_;have BK1:=n1_;have GW1:=n2_;have GE1:=n3_;clear n0_ n1_ n2_ n3_;clear hb hbox hg;have hcz176_0 : w175.cell? ⟨gb1,0,none⟩ = some (.slice A0_0 l0_0.length c0_0):=(blk_cell BK1.out 0).trans rfl;have hfz176_0:=blk_frozen BK1.out 0) | ((with_reducible refine gate_callee (f:=10) rfl ?_);refine goesL_ (some 16) rfl rfl Try.func10 (by kernel_rfl) rfl #[.agg #[.slice A0_0 l0_0.length c0_0],.int .i64 1048576] rfl lm_ ?_;(with_reducible refine (laws_szTree.calls k _ _ l0_0 1048576 t2 _ ?side1 ?side2 A3.out).mono ?_);(case side1=>exact cc_ (Kd.C_below HR0_0.out HB.out));(case side2=>exact HC0_0.out);rintro e w177 ⟨rfl,hb⟩;refine ⟨_,rfl,?_⟩;have n0_:=a0_ (blk_below (g:=gb1) (o:=.cells #[.slice A0_0 l0_0.length c0_0] 24 (0,0)) (bb_ BK1.out) hb);have n1_:=a0_ (below_step hb_ hb);clear BK1 HB;have BK1:=n0_;have HB:=n1_;clear n0_ n1_;(try clear hb);(try clear hb2);(try clear hk);(try clear hi)) | ((with_reducible refine gate_callee (f:=11) rfl ?_);refine goesL_ (some 21) rfl rfl Try.func11 (by kernel_rfl) rfl #[.slice A1 l1.length c1,.int .i64 t2] rfl lm_ ?_;(with_reducible refine (laws_szPartS.calls _ _ l1 t2 t3 _ ?side1 ?side2 A8.out).mono ?_);(case side1=>exact cc_ (Kd.C_below HR1.out HB.out));(case side2=>exact HC1.out);rintro e w' ⟨rfl,⟨nd,rfl⟩⟩;refine ⟨_,rfl,?_⟩;(try (rw [drewN_self w177];generalize hq_ : World.drewN w177 _ = w177;have n0_ : Aside0 (w177.heap[gb1]? = some (.cells #[.slice A0_0 l0_0.length c0_0] 24 (0,0))):=⟨by rw [← hq_];exact (bb_ BK1.out)⟩;have n1_ : Aside0 (Below w.heap.size w w177):=⟨by rw [← hq_];exact hb_⟩;clear BK1 HB hq_;have BK1:=n0_;have HB:=n1_;clear n0_ n1_));have hcz178_0 : w177.cell? ⟨gb1,0,none⟩ = some (.slice A0_0 l0_0.length c0_0):=(blk_cell BK1.out 0).trans rfl;have hfz178_0:=blk_frozen BK1.out 0) | ((with_reducible refine gate_callee (f:=13) rfl ?_);refine goesL_ (some 25) rfl rfl Try.func13 (by kernel_rfl) rfl #[.agg #[.slice A0_0 l0_0.length c0_0]] rfl lm_ ?_;(with_reducible refine (laws_toTree.calls k _ _ l0_0 t4 _ ?side1 ?side2 A13.out).mono ?_);(case side1=>exact cc_ (Kd.C_below HR0_0.out HB.out));(case side2=>exact HC0_0.out);rintro e w179 ⟨v5,rfl,ho0,hb⟩;refine ⟨_,rfl,?_⟩;have n0_:=a0_ (Kd.R_lower ho0 (below_size hb_));have n1_:=a0_ (blk_below (g:=gb1) (o:=.cells #[.slice A0_0 l0_0.length c0_0] 24 (0,0)) (bb_ BK1.out) hb);have n2_:=a0_ (below_step hb_ hb);clear BK1 HB;have HO6:=n0_;have BK1:=n1_;have HB:=n2_;clear n0_ n1_ n2_;(try clear hb);(try clear hb2);(try clear hk);(try clear hi);(try clear ho0)) | ((with_reducible refine gate_callee (f:=14) rfl ?_);refine goesL_ (some 27) rfl rfl Try.func14 (by kernel_rfl) rfl #[.slice A1 l1.length c1] rfl lm_ ?_;(with_reducible refine (laws_toPartS.calls k _ _ l1 t7 _ ?side1 ?side2 A14.out).mono ?_);(case side1=>exact cc_ (Kd.C_below HR1.out HB.out));(case side2=>exact HC1.out);rintro e w180 ⟨v8,rfl,ho0,hb⟩;refine ⟨_,rfl,?_⟩;have n0_:=a0_ (Kd.R_below (rr_ HO6.out) hb);have n1_:=a0_ (Kd.R_lower ho0 (below_size hb_));have n2_:=a0_ (blk_below (g:=gb1) (o:=.cells #[.slice A0_0 l0_0.length c0_0] 24 (0,0)) (bb_ BK1.out) hb);have n3_:=a0_ (below_step hb_ hb);clear HO6 BK1 HB;have HO6:=n0_;have HO9:=n1_;have BK1:=n2_;have HB:=n3_;clear n0_ n1_ n2_ n3_;(try clear hb);(try clear hb2);(try clear hk);(try clear hi);(try clear ho0);obtain ⟨Ao181,co181,eo181⟩:=Kd.R_slice HO6.out;subst eo181;obtain ⟨Ao182,co182,eo182⟩:=Kd.R_slice HO9.out;subst eo182) | ((with_reducible refine gate_callee (f:=23) rfl ?_);refine goesL_ (some 28) rfl rfl Try.func23 (by kernel_rfl) rfl #[.agg #[.slice Ao181 t4.length co181],.slice Ao182 t7.length co182] rfl lm_ ?_;(with_reducible refine (spec_LeavesOf.calls k _ _ t4 _ _ t7 t10 _ ?side1 ?side2 ?side3 ?side4 A15.out).mono ?_);(case side1=>repeat (first | exact (Kd.R_reads' HO6.out).2.2 | (with_reducible refine Kd.C_alloc ?_ _) | (with_reducible refine Kd.C_drewN ?_ _) | (with_reducible refine Kd.C_drew ?_)));(case side2=>exact (Kd.R_reads' HO6.out).2.1);(case side3=>repeat (first | exact (Kd.R_reads' HO9.out).2.2 | (with_reducible refine Kd.C_alloc ?_ _) | (with_reducible refine Kd.C_drewN ?_ _) | (with_reducible refine Kd.C_drew ?_)));(case side4=>exact (Kd.R_reads' HO9.out).2.1);rintro e w183 ⟨v11,rfl,ho0,hb⟩;refine ⟨_,rfl,?_⟩;have n0_:=a0_ (Kd.R_below (rr_ HO6.out) hb);have n1_:=a0_ (Kd.R_below (rr_ HO9.out) hb);have n2_:=a0_ (Kd.R_lower ho0 (below_size hb_));have n3_:=a0_ (blk_below (g:=gb1) (o:=.cells #[.slice A0_0 l0_0.length c0_0] 24 (0,0)) (bb_ BK1.out) hb);have n4_:=a0_ (below_step hb_ hb);clear HO6 HO9;clear BK1 HB;have HO6:=n0_;have HO9:=n1_;have HO12:=n2_;have BK1:=n3_;have HB:=n4_;clear n0_ n1_ n2_ n3_ n4_;(try clear hb);(try clear hb2);(try clear hk);(try clear hi);(try clear ho0);have hcz184_0 : w183.cell? ⟨gb1,0,none⟩ = some (.slice A0_0 l0_0.length c0_0):=(blk_cell BK1.out 0).trans rfl;have hfz184_0:=blk_frozen BK1.out 0) | ((with_reducible refine gate_callee (f:=13) rfl ?_);refine goesL_ (some 30) rfl rfl Try.func13 (by kernel_rfl) rfl #[.agg #[.slice A0_0 l0_0.length c0_0]] rfl lm_ ?_;(with_reducible refine (laws_toTree.calls k _ _ l0_0 t13 _ ?side1 ?side2 A16.out).mono ?_);(case side1=>exact cc_ (Kd.C_below HR0_0.out HB.out));(case side2=>exact HC0_0.out);rintro e w185 ⟨v14,rfl,ho0,hb⟩;refine ⟨_,rfl,?_⟩;have n0_:=a0_ (Kd.R_elder' (rr_ HO6.out) (Kd.R_base ho0) hb);have n1_:=a0_ (Kd.R_below (rr_ HO9.out) hb);have n2_:=a0_ (Kd.R_below (rr_ HO12.out) hb);have n3_:=a0_ (Kd.R_lower (Kd.R_new' ho0 (Kd.R_lt (rr_ HO6.out))) (below_size hb_));have n4_:=a0_ (blk_below (g:=gb1) (o:=.cells #[.slice A0_0 l0_0.length c0_0] 24 (0,0)) (bb_ BK1.out) hb);have n5_:=a0_ (below_step hb_ hb);clear HO6 HO9;clear HO12 BK1 HB;have HO6:=n0_;have HO9:=n1_;have HO12:=n2_;have HO15:=n3_;have BK1:=n4_;have HB:=n5_;clear n0_ n1_ n2_ n3_ n4_ n5_;(try clear hb);(try clear hb2);(try clear hk);(try clear hi);(try clear ho0)) | ((with_reducible refine gate_dst (N:=7) rfl ?_);refine box_event ?hg (N:=7) ?hd (cs:=#[.slice none 0 0]) (t:=31) ?hr ?_;(case hd=>rfl);(case hg=>rfl);(case hr=>first | (go_simp;done) | (go_simp;rfl));intro gb16 hg w186 hbox hb;have n0_:=a0_ (Kd.R_below (rr_ HO6.out) hb);have n1_:=a0_ (Kd.R_below (rr_ HO9.out) hb);have n2_:=a0_ (Kd.R_below (rr_ HO12.out) hb);have n3_:=a0_ (Kd.R_below (rr_ HO15.out) hb);have n4_:=a0_ (blk_below (g:=gb1) (o:=.cells #[.slice A0_0 l0_0.length c0_0] 24 (0,0)) (bb_ BK1.out) hb);have n5_:=a0_ (below_step hb_ hb);have n6_:=a0_ (hbox);have n7_:=a0_ ((by rw [hg];exact (below_size hb_) : w.heap.size ≤ gb16));have n8_:=a0_ ((by rw [hg];exact (below_size hb_) : w.heap.size ≤ gb16));have n9_:=a0_ ((by rw [hg];exact Nat.ne_of_lt (blk_lt (g:=gb1) (o:=.cells #[.slice A0_0 l0_0.length c0_0] 24 (0,0)) (bb_ BK1.out)) : gb1 ≠ gb16));have n10_:=a0_ ((by rw [hg];exact Nat.ne_of_gt (blk_lt (g:=gb1) (o:=.cells #[.slice A0_0 l0_0.length c0_0] 24 (0,0)) (bb_ BK1.out)) : gb16 ≠ gb1));clear HO6 HO9;clear HO12 HO15;clear BK1 HB;have HO6:=n0_;have HO9:=n1_;have HO12:=n2_;have HO15:=n3_;have BK1:=n4_;have HB:=n5_;have BK16:=n6_;have GW16:=n7_;have GE16:=n8_;have NB1_16:=n9_;have NB16_1:=n10_;clear n0_ n1_ n2_ n3_ n4_ n5_ n6_ n7_ n8_ n9_ n10_;clear hb hbox hg;obtain ⟨Ao187,co187,eo187⟩:=Kd.R_slice HO15.out;subst eo187;have hnb188:=NB16_1.out;have hnc188:=NB1_16.out;have hcz189_0 : w186.cell? ⟨gb16,0,none⟩ = some (.slice none 0 0):=(blk_cell BK16.out 0).trans rfl;have hfz189_0:=blk_frozen BK16.out 0) | ((with_reducible refine gate_callee (f:=14) rfl ?_);refine goesL_ (some 32) rfl rfl Try.func14 (by kernel_rfl) rfl #[.slice A1 l1.length c1] rfl lm_ ?_;(with_reducible refine (laws_toPartS.calls k _ _ l1 t17 _ ?side1 ?side2 A17.out).mono ?_);(case side1=>exact Kd.C_below HR1.out hb_);(case side2=>exact HC1.out);rintro e w190 ⟨v18,rfl,ho0,hb⟩;refine ⟨_,rfl,?_⟩;have n0_:=a0_ (Kd.R_below (by (with_reducible repeat (first | apply Kd.R_alloc | apply Kd.R_drewN | apply Kd.R_drew));exact (Kd.R_mono (Kd.R_far (p:=⟨gb16,0,none⟩) (Kd.R_types HO6.out BK16.out (by decide)) (fun _ hk=>hk.2) (.slice Ao187 t13.length co187)) (fun _ h_=>h_.1))) hb);have n1_:=a0_ (Kd.R_elder' (by (with_reducible repeat (first | apply Kd.R_alloc | apply Kd.R_drewN | apply Kd.R_drew));exact (Kd.R_mono (Kd.R_far (p:=⟨gb16,0,none⟩) (Kd.R_types HO9.out BK16.out (by decide)) (fun _ hk=>hk.2) (.slice Ao187 t13.length co187)) (fun _ h_=>h_.1))) (Kd.R_base ho0) hb);have n2_:=a0_ (Kd.R_below (by (with_reducible repeat (first | apply Kd.R_alloc | apply Kd.R_drewN | apply Kd.R_drew));exact (Kd.R_mono (Kd.R_far (p:=⟨gb16,0,none⟩) (Kd.R_types HO12.out BK16.out (by decide)) (fun _ hk=>hk.2) (.slice Ao187 t13.length co187)) (fun _ h_=>h_.1))) hb);have n3_:=a0_ (Kd.R_below (by (with_reducible repeat (first | apply Kd.R_alloc | apply Kd.R_drewN | apply Kd.R_drew));exact (Kd.R_mono (Kd.R_far (p:=⟨gb16,0,none⟩) (Kd.R_types HO15.out BK16.out (by decide)) (fun _ hk=>hk.2) (.slice Ao187 t13.length co187)) (fun _ h_=>h_.1))) hb);have n4_:=a0_ (Kd.R_lower (Kd.R_new' ho0 (Kd.R_lt (by (with_reducible repeat (first | apply Kd.R_alloc | apply Kd.R_drewN | apply Kd.R_drew));exact (Kd.R_mono (Kd.R_far (p:=⟨gb16,0,none⟩) (Kd.R_types HO9.out BK16.out (by decide)) (fun _ hk=>hk.2) (.slice Ao187 t13.length co187)) (fun _ h_=>h_.1))))) (below_size hb_));have n5_:=a0_ (blk_below (g:=gb1) (o:=.cells #[.slice A0_0 l0_0.length c0_0] 24 (0,0)) (by (with_reducible repeat (first | refine blk_drewN ?_ _ | refine blk_drew ?_ | refine blk_alloc ?_ _));refine blk_far ?_ NB1_16.out _;(with_reducible repeat (first | refine blk_drewN ?_ _ | refine blk_drew ?_ | refine blk_alloc ?_ _));exact BK1.out) hb);have n6_:=a0_ (blk_below (g:=gb16) (o:=.cells #[.slice Ao187 t13.length co187] 31 (0,0)) (by (with_reducible repeat (first | refine blk_drewN ?_ _ | refine blk_drew ?_ | refine blk_alloc ?_ _));refine blk_put (cs:=#[.slice none 0 0]) ?_ 0 _ rfl;(with_reducible repeat (first | refine blk_drewN ?_ _ | refine blk_drew ?_ | refine blk_alloc ?_ _));exact BK16.out) hb);have n7_:=a0_ (below_step hb_ hb);clear HO6 HO9;clear HO12 HO15;clear BK1 BK16 HB;have HO6:=n0_;have HO9:=n1_;have HO12:=n2_;have HO15:=n3_;have HO19:=n4_;have BK1:=n5_;have BK16:=n6_;have HB:=n7_;clear n0_ n1_ n2_ n3_ n4_ n5_ n6_ n7_;(try clear hb);(try clear hb2);(try clear hk);(try clear hi);(try clear ho0);have hcz191_0 : w190.cell? ⟨gb16,0,none⟩ = some (.slice Ao187 t13.length co187):=(blk_cell BK16.out 0).trans rfl;have hfz191_0:=blk_frozen BK16.out 0;obtain ⟨Ao192,co192,eo192⟩:=Kd.R_slice HO19.out;subst eo192) | ((with_reducible refine gate_callee (f:=24) rfl ?_);refine goesL_ (some 35) rfl rfl Try.func24 (by kernel_rfl) rfl #[.agg #[.slice Ao187 t13.length co187],.slice Ao192 t17.length co192] rfl lm_ ?_;(with_reducible refine (impl_LeavesOf.calls k _ _ t13 _ _ t17 t20 _ ?side1 ?side2 ?side3 ?side4 A18.out).mono ?_);(case side1=>repeat (first | exact (Kd.R_reads' HO15.out).2.2 | (with_reducible refine Kd.C_alloc ?_ _) | (with_reducible refine Kd.C_drewN ?_ _) | (with_reducible refine Kd.C_drew ?_)));(case side2=>exact (Kd.R_reads' HO15.out).2.1);(case side3=>repeat (first | exact (Kd.R_reads' HO19.out).2.2 | (with_reducible refine Kd.C_alloc ?_ _) | (with_reducible refine Kd.C_drewN ?_ _) | (with_reducible refine Kd.C_drew ?_)));(case side4=>exact (Kd.R_reads' HO19.out).2.1);rintro e w193 ⟨v21,rfl,ho0,hb⟩;refine ⟨_,rfl,?_⟩;have n0_:=a0_ (Kd.R_below (rr_ HO6.out) hb);have n1_:=a0_ (Kd.R_below (rr_ HO9.out) hb);have n2_:=a0_ (Kd.R_elder' (rr_ HO12.out) (Kd.R_base ho0) hb);have n3_:=a0_ (Kd.R_below (rr_ HO15.out) hb);have n4_:=a0_ (Kd.R_below (rr_ HO19.out) hb);have n5_:=a0_ (Kd.R_lower (Kd.R_new' ho0 (Kd.R_lt (rr_ HO12.out))) (below_size hb_));have n6_:=a0_ (blk_below (g:=gb1) (o:=.cells #[.slice A0_0 l0_0.length c0_0] 24 (0,0)) (bb_ BK1.out) hb);have n7_:=a0_ (blk_below (g:=gb16) (o:=.cells #[.slice Ao187 t13.length co187] 31 (0,0)) (bb_ BK16.out) hb);have n8_:=a0_ (below_step hb_ hb);clear HO6 HO9;clear HO12 HO15;clear HO19 BK1;clear BK16 HB;have HO6:=n0_;have HO9:=n1_;have HO12:=n2_;have HO15:=n3_;have HO19:=n4_;have HO22:=n5_;have BK1:=n6_;have BK16:=n7_;have HB:=n8_;clear n0_ n1_ n2_ n3_ n4_ n5_ n6_ n7_ n8_;(try clear hb);(try clear hb2);(try clear hk);(try clear hi);(try clear ho0);obtain ⟨Ao194,co194,eo194⟩:=Kd.R_slice HO22.out;subst eo194;obtain ⟨Ao195,co195,eo195⟩:=Kd.R_slice HO12.out;subst eo195) | ((with_reducible refine gate_callee (f:=25) rfl ?_);refine goesL_ (some 38) rfl rfl Try.func25 (by kernel_rfl) rfl #[.slice Ao194 t20.length co194,.slice Ao195 t10.length co195] rfl lm_ ?_;(with_reducible refine (laws_eqLeafS.calls k _ _ t20 _ _ t10 false _ ?side1 ?side2 ?side3 ?side4 A19.out).mono ?_);(case side1=>repeat (first | exact (Kd.R_reads' HO22.out).2.2 | (with_reducible refine Kd.C_alloc ?_ _) | (with_reducible refine Kd.C_drewN ?_ _) | (with_reducible refine Kd.C_drew ?_)));(case side2=>exact (Kd.R_reads' HO22.out).2.1);(case side3=>repeat (first | exact (Kd.R_reads' HO12.out).2.2 | (with_reducible refine Kd.C_alloc ?_ _) | (with_reducible refine Kd.C_drewN ?_ _) | (with_reducible refine Kd.C_drew ?_)));(case side4=>exact (Kd.R_reads' HO12.out).2.1);rintro e w196 ⟨rfl,hb⟩;refine ⟨_,rfl,?_⟩;have n0_:=a0_ (Kd.R_below (rr_ HO6.out) hb);have n1_:=a0_ (Kd.R_below (rr_ HO9.out) hb);have n2_:=a0_ (Kd.R_below (rr_ HO12.out) hb);have n3_:=a0_ (Kd.R_below (rr_ HO15.out) hb);have n4_:=a0_ (Kd.R_below (rr_ HO19.out) hb);have n5_:=a0_ (Kd.R_below (rr_ HO22.out) hb);have n6_:=a0_ (blk_below (g:=gb1) (o:=.cells #[.slice A0_0 l0_0.length c0_0] 24 (0,0)) (bb_ BK1.out) hb);have n7_:=a0_ (blk_below (g:=gb16) (o:=.cells #[.slice Ao187 t13.length co187] 31 (0,0)) (bb_ BK16.out) hb);have n8_:=a0_ (below_step hb_ hb);clear HO6 HO9;clear HO12 HO15;clear HO19 HO22;clear BK1 BK16 HB;have HO6:=n0_;have HO9:=n1_;have HO12:=n2_;have HO15:=n3_;have HO19:=n4_;have HO22:=n5_;have BK1:=n6_;have BK16:=n7_;have HB:=n8_;clear n0_ n1_ n2_ n3_ n4_ n5_ n6_ n7_ n8_;(try clear hb);(try clear hb2);(try clear hk);(try clear hi)))
    go_ret
    exact ⟨by first | rfl | (simp [errW_none,errW_some] <;> rfl) | (simp [*,errW_none,errW_some] <;> rfl),hb_⟩
end Go.Proofs.Ytdepjpjgecdcjaa.P
namespace Go.Proofs.Ytdepjpjgecdcjaa.Pure
open Go.RowKit Go.Proofs.Ytdepjpjgecdcjaa.P
set_option linter.unusedVariables false
theorem FnExactLeavesOf (l0_0 : List S85) (l1 : List S65) (G0_0 : (l0_0.length ≤ maxLen ∧ ∀ x ∈ l0_0,(x.f0.size ≤ maxLen ∧ (Lit.int .i64 x.f1).wf = true))) (g1 : (l1.length ≤ maxLen ∧ ∀ x ∈ l1,((Lit.int .i64 x.f0).wf = true ∧ True ∧ (Lit.int .i64 x.f2).wf = true ∧ (Lit.int .i64 x.f3).wf = true))) : ∃ k,laws_FnExactLeavesOf.f k l0_0 l1 = some true:=by
 have hmax : maxLen = 9223372036854775807:=by decide
 rw [hmax] at G0_0 g1
 refine Ev.out (F:=fun k=>laws_FnExactLeavesOf.f k l0_0 l1) ?_
 unfold laws_FnExactLeavesOf.f
 obtain ⟨v,hv,hg⟩:=laws_szTree_ev l0_0 1048576 (by omega) (by omega) G0_0.1 (fun x hx=>(G0_0.2 x hx).1)
 refine Ev.bind hv ?_
 by_cases h2 : v < 0
 ·exact Ev.pos h2 (Ev.const rfl)
 refine Ev.neg h2 ?_
 obtain ⟨hva,ht,hs⟩:=hg (by omega)
 obtain ⟨v2,hv2,hg2⟩:=laws_szPartS_ev l1 v (by omega) (by omega) g1.1
 refine Ev.bind hv2 ?_
 by_cases h3 : v2 < 0
 ·exact Ev.pos h3 (Ev.const rfl)
 refine Ev.neg h3 ?_
 obtain ⟨_,hp⟩:=hg2 (by omega)
 have hT:=laws_toTree_ev l0_0 (by omega)
 have hP:=laws_toPartS_ev l1 (by omega)
 have hsm:=smT_of hs
 have htl : (l0_0.map toC).length ≤ 1048576:=by rw [List.length_map];omega
 have hpl : (l1.map toPart).length ≤ 1048576:=by rw [List.length_map];omega
 have hS:=spec_LeavesOf_ev (l0_0.map toC) (l1.map toPart) hsm
 have hG:=impl_LeavesOf_ev (l0_0.map toC) (l1.map toPart) (by omega) (by omega) hsm
 have hrl:=leavesP_len (l0_0.map toC) (l1.map toPart)
 generalize leavesP (l0_0.map toC) (l1.map toPart) = r at hS hG hrl
 have hE:=laws_eqLeafS_ev r (by omega)
 obtain ⟨l',hm⟩:=laws_markTree_ev (l0_0.map toC) 1 (by omega) (by omega)
 have hm2:=laws_markPartS_ev (l1.map toPart) (1 + 2 * (l0_0.map toC).length) (by omega) (by omega)
 have hm3:=laws_markLeafS_ev r 1 (by omega) (by omega)
 have hh:=laws_heldLeafS_ev 1 r.length (by omega) (by omega)
 refine Ev.bind hT (Ev.bind hP (Ev.bind hS (Ev.bind hT (Ev.bind hP (Ev.bind hG (Ev.bind hE (Ev.pos rfl ?_)))))))
 refine Ev.bind hT (Ev.bind (laws_eqTree_ev _ (by omega)) (Ev.pos rfl (Ev.bind hP (Ev.bind (laws_eqPartS_ev _ (by omega)) (Ev.pos rfl ?_)))))
 refine Ev.bind hm (Ev.bind hm2 (Ev.neg (by show ¬ (_ < (0 : Int));omega) (Ev.bind hE ?_)))
 refine Ev.succ ?_
 simp only [laws_FnExactLeavesOf.j0]
 refine Ev.neg (by decide) (Ev.bind hm3 (Ev.bind hh (Ev.neg (by omega) (Ev.pos rfl ?_))))
 exact Ev.bind hT (Ev.bind hP (Ev.bind hG (Ev.bind hE (Ev.pos rfl (Ev.bind hh (Ev.neg (by omega) (Ev.pos rfl (Ev.const rfl))))))))
end Go.Proofs.Ytdepjpjgecdcjaa.Pure
